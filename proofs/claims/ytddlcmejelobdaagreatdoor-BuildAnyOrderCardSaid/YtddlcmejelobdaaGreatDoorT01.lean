/- A part. Conditions: none. -/
import Derived.Test.YtddlcmejelobdaaGreatDoorT00
import Derived.Laws.Sem
set_option linter.all false
namespace Go.aC
variable {ED El hi lo mx se:Option fu} {XJ ps:Array (Nat×fu)} {a a':Addr} {b b' i i' k k' v v' x x' y y':fu} {c l l' n off:Nat} {cW xs ys z z':Array fu} {q:Pi} {r r':Operand->fu} {t:a00} {α β:Type}
section
variable {P:un} {F:Array Func} {S:Nat->Bool} {K:Kz} {N:Nat} {p:Pi}
def SR.I9 (f:α->Sem β) (h:∀x q,SR P F S K N (QE β) (f x) (f x) q) (xs:Array α):SR P F S K N (QE (Array β)) (xs.mapM f) (xs.mapM f) p:=by
 rw[zEM,<-zFI];generalize xs.toList=l;generalize(#[]:Array β)=acc;induction l generalizing acc p with
 |nil=>exact SR.pure rfl
 |cons x l ih=>
  simp only[zFW];refine SR.aD (α:=Array β) ?_ λq a hq=>ih a;exact(h x p).aD λq b hq=>SR.pure rfl
inductive PL (S:Nat->Bool) (p:Pi):List (Nat×fu)->List (Nat×fu)->Prop
 |nil:PL S p [] []
 |cons {i:Nat} {v v':fu} {l l':List (Nat×fu)} (h:VR S p v v') (t:PL S p l l'):PL S p ((i,v)::l) ((i,v')::l')
def PL.mono (h:Le p q) {l l':List (Nat×fu)} (x:PL S p l l'):PL S q l l':=by
 induction x with
 |nil=>exact .nil
 |cons g _ ih=>exact .cons (g.mono h) ih
def PL.map (l:List (Nat×Operand)) (f g:Operand->fu) (h:∀x∈l,VR S p (f x.2) (g x.2)):PL S p (l.map λ(i,x)=>(i,f x)) (l.map λ(i,x)=>(i,g x)):=by
 induction l with
 |nil=>exact .nil
 |cons x l ih=>exact .cons (h x (by simp)) (ih λy hy=>h y (by simp[hy]))
def Uz (h:AR S p xs ys) {cs kQ:List (fu×Nat)} (off:Nat) (hc:∀(j:Nat) a b,cs[j]?=some a->kQ[j]?=some b->VR S p a.1 b.1/\a.2=b.2) (hl:cs.length=kQ.length):
 AR S p (cs.foldl (λacc (c,j)=>acc.setIfInBounds (off+j) c) xs) (kQ.foldl (λacc (c,j)=>acc.setIfInBounds (off+j) c) ys):=by
 induction cs generalizing kQ xs ys with
 |nil=>cases kQ with
  |nil=>exact h
  |cons=>cases hl
 |cons c cs ih=>cases kQ with
  |nil=>cases hl
  |cons c' kQ=>
   have h0:=hc 0 c c' rfl rfl;simp only[zDA];rw[h0.2];exact ih (h.set _ h0.1) (λj a b h1 h2=>hc (j+1) a b h1 h2) (by simpa using hl)
def ud (place:Nat->Option (Nat×Nat)):∀{l l':List (Nat×fu)} {xs ys:Array fu},PL S p l l'->AR S p xs ys->
 (Instr.fill place xs l=none/\Instr.fill place ys l'=none)\/∃a b,Instr.fill place xs l=some a/\Instr.fill place ys l'=some b/\AR S p a b:=by
 intro l l' xs ys hl;induction hl generalizing xs ys with
 |nil=>intro h;exact .inr ⟨_,_,rfl,rfl,h⟩
 | @cons i v v' l l' hv _ ih=>
   intro h;simp only[Instr.fill];cases place i with
   |none=>exact .inl ⟨rfl,rfl⟩
   |some x=>
    obtain⟨off,size⟩:=x;simp only;have hc:=hv.cells;rw[<-hc.1,<-h.1];split
    .exact .inl ⟨rfl,rfl⟩
    .refine ih ?_;rw[<-zEV,<-zEV];refine Uz h off (λj a b h1 h2=>?_) (by simp[hc.1]);simp only[zDQ,Array.getElem?_zipIdx]at h1 h2;cases hx:v.cells[j]? with
     |none=>rw[hx]at h1;cases h1
     |some u=>
      obtain⟨u',hu',hr⟩:=hc.get hx;rw[hx]at h1;rw[hu']at h2;simp only[zBA,zAA]at h1 h2;subst h1;subst h2;exact⟨hr,rfl⟩
def SR.box (e:a00) (h:VR S p v v'):SR P F S K N (QV S) (Instr.box e v) (Instr.box e v') p:=
 (SR.newVar e h).bind λq a a' hq ha=>SR.pure ha.1.ptr
def SR.alloc (hz:bz P) (e:a00):SR P F S K N (QV S) (Instr.alloc e true (.tuple #[])) (Instr.alloc e true (.tuple #[])) p:=by
 unfold Instr.alloc;refine(SR.zeroValue hz e).bind λq z z' hq Ek=>?_;obtain⟨rfl,hv⟩:=Ek;exact(SR.newVar e hv).bind λq a a' hq ha=>SR.pure ha.1.ptr
def SR.build (hz:bz P) (t:a00) (h:PL S p ps.toList XJ.toList):SR P F S K N (QV S) (Instr.build t ps) (Instr.build t XJ) p:=by
 unfold Instr.build;refine(SR.zeroValue hz t).bind λq z z' hq Ek=>?_;obtain⟨rfl,hv⟩:=Ek;have h:=h.mono hq;refine SR.cN λd hd=>?_;cases d with
 |struct fields=>
  refine SR.aD (α:=Array (Nat×Nat)) (SR.I9 _ (λf q=>(SR.sizeOf f.type).aD λq n hq=>SR.pure rfl) fields) λq places hq=>?_;rcases ud (λi=>places[i]?) (h.mono hq) (hv.mono hq).cells with⟨e1,e2⟩|⟨a,b,e1,e2,pH⟩
  .simp only[e1];exact SR.stuck
  .simp only[e1,e2];exact SR.pure pH.agg
 |array n e=>
  refine(SR.sizeOf e).aD λq size hq=>?_;rcases ud (λi=>some (i*size,size)) (h.mono hq) (hv.mono hq).cells with⟨e1,e2⟩|⟨a,b,e1,e2,pH⟩
  .simp only[e1];exact SR.stuck
  .simp only[e1,e2];exact SR.pure pH.agg
 |_=>exact SR.stuck
def tG (h:AR S p z z') (n:Nat):AR S p ((Array.range n).map (λi=>z[i%z.size]!)) ((Array.range n).map (λi=>z'[i%z'.size]!)):=by
 refine AR.ofFn n _ _ λi=>?_;rw[<-h.1];simp only[getElem!_def];cases hx:z[i%z.size]? with
 |none=>rw[h.none hx];exact VR.plain 1 _ (by simp[plain,default,instInhabitedValue.default])
 |some v=>obtain⟨v',qY,hr⟩:=h.get hx;rw[qY];exact hr
def SR.buildSlice (hz:bz P) (t:a00) (len:Nat) (h:PL S p ps.toList XJ.toList):SR P F S K N (QV S) (Instr.buildSlice t len ps) (Instr.buildSlice t len XJ) p:=by
 unfold Instr.buildSlice;refine SR.cN λd hd=>?_;cases d with
 |slice e=>
  simp only;refine(SR.sizeOf e).aD λq size hq=>?_;have h:=h.mono hq;split
  .exact SR.unsupported
  .have key:∀(q':Pi) (z z':Array fu),Le q q'->AR S q' z z'->SR P F S K N (QV S)
    (match Instr.fill (λi=>some (i*size,size)) ((Array.range (len*size)).map (z[·%z.size]!)) ps.toList with
      |some cells=>(Go.newRow e cells>>=λa=>Pure.pure (Value.slice (some a) len len))
      |_=>Go.stuck "buildSlice: a part of the wrong size")
    (match Instr.fill (λi=>some (i*size,size)) ((Array.range (len*size)).map (z'[·%z'.size]!)) XJ.toList with
      |some cells=>(Go.newRow e cells>>=λa=>Pure.pure (Value.slice (some a) len len))
      |_=>Go.stuck "buildSlice: a part of the wrong size") q':=by
    intro q' z z' xD Ek;rcases ud (λi=>some (i*size,size)) (h.mono xD) (tG Ek (len*size))with⟨e1,e2⟩|⟨a,b,e1,e2,pH⟩
    .simp only[e1];exact SR.stuck
    .simp only[e1,e2];exact(SR.newRow e pH).bind λq a a' hq ha=>SR.pure (ha.1.sl (λ_=>ha.2.2) len len)
   split
   .exact key q #[] #[] (Le.refl _) AR.empty
   .refine(SR.zeroValue hz e).bind λq2 z z' cR Ek=>?_;obtain⟨rfl,hv⟩:=Ek;exact key q2 _ _ cR hv.cells
 |_=>exact SR.stuck
def SR.loadAt (t:a00) (h:VR S p v v'):SR P F S K N (QV S) (Instr.loadAt t v) (Instr.loadAt t v') p:=
 (SR.sureAddr h).bind λq a a' hq ha=>SR.loadVar t ha
def SR.storeAt (t:a00) (h:VR S p v v') (hx:VR S p x x'):SR P F S K N (QE Unit) (Instr.storeAt t v x) (Instr.storeAt t v' x') p:=
 (SR.sureAddr h).bind λq a a' hq ha=>SR.storeVar t ha (hx.mono hq)
def SR.fieldAt (s:a00) (f:Nat) (hf:∀fs g i,P.underlying s=some (.struct fs)->fs[f]?=some g->P.info? g.type=some i->i.size≠0) (h:VR S p v v'):
 SR P F S K N (QV S) (Instr.fieldAt s v f) (Instr.fieldAt s v' f) p:=by
 unfold Instr.fieldAt;refine SR.cN λd hd=>?_;cases d with
 |struct fields=>
  simp only;cases hg:fields[f]? with
  |none=>exact SR.stuck
  |some g=>
   simp only;refine(SR.sureAddr h).bind λq a a' hq ha=>?_;unfold Go.fieldPlace Go.sizeOf;refine SR.bind (Q:=QD) ?_ λq b b' hq hb=>SR.pure hb.ptr;show SR P F S K N QD ((Go.typeInfo g.type>>=λi=>Pure.pure i.size)>>=_) ((Go.typeInfo g.type>>=λi=>Pure.pure i.size)>>=_) q;refine SR.bind (Q:=λ_ (a b:Nat)=>a=b/\a≠0) (SR.pG λi hi=>SR.pure ⟨rfl,hf fields g i hd hg hi⟩) λq n n' hq hn=>?_;obtain⟨rfl,hn⟩:=hn;simp only[hn,zBJ];exact SR.pure ((ha.mono hq).add _)
 |_=>exact SR.stuck
def SR.field (t:a00) (f:Nat) (h:VR S p v v'):SR P F S K N (QV S) (Instr.field t v f) (Instr.field t v' f) p:=by
 unfold Instr.field;refine SR.cN λd hd=>?_;cases d with
 |struct fields=>
  simp only;cases hg:fields[f]? with
  |none=>exact SR.stuck
  |some g=>exact(SR.asAgg h).bind λq a a' hq ha=>SR.part _ ha _
 |_=>exact SR.stuck
def SR.index (t:a00) (h:VR S p v v') (hi:VR S p i i'):SR P F S K N (QV S) (Instr.index t v i) (Instr.index t v' i') p:=by
 unfold Instr.index;refine(SR.asIntOf hi).aD λq ki hq=>?_;obtain⟨k,n⟩:=ki;have h:=h.mono hq;refine SR.cN λd hd=>?_;cases d with
 |array len elem=>
  cases h with
  |agg hx gx=>
   simp only;split
   .exact(SR.sizeOf elem).aD λq m hq=>SR.part elem (AR.mono hq ⟨hx,gx⟩) _
   .exact SR.boundsPanic _ _ _ _
  |_=>exact SR.stuck
 |string=>
  cases h with
  |string s=>
   simp only;split
   .exact SR.pure (.int _ _)
   .exact SR.boundsPanic _ _ _ _
  |_=>exact SR.stuck
 |_=>cases h<;>exact SR.stuck
def SR.sliceBound (x x':fu) (h:VR S p x x') (y:Nat) (c:BoundsCode):SR P F S K N (QE Nat) (Instr.sliceBound x y c) (Instr.sliceBound x' y c) p:=by
 unfold Instr.sliceBound;refine(SR.asIntOf h).aD λq ki hq=>?_;obtain⟨k,n⟩:=ki;simp only;split
 .exact SR.pure rfl
 .exact SR.boundsPanic _ _ _ _
def OV (S:Nat->Bool) (p:Pi):Option fu->Option fu->Prop
 |none,none=>True
 |some v,some v'=>VR S p v v'
 |_,_=>False
def OV.mono (h:Le p q) {a b:Option fu} (x:OV S p a b):OV S q a b:=by
 cases a<;>cases b<;>first|trivial|exact x.elim|exact VR.mono h x
def SR.sliceBounds (b:Bool) (len cap:Nat) (h1:OV S p lo ED) (h2:OV S p hi se) (h3:OV S p mx El):
 SR P F S K N (QE (Nat×Nat×Nat)) (Instr.sliceBounds b len cap lo hi mx) (Instr.sliceBounds b len cap ED se El) p:=by
 have hb:∀(q:Pi) (x x':fu) (y:Nat) (c:BoundsCode) (f f':Nat->Sem (Nat×Nat×Nat)),Le p q->VR S p x x'->(∀q' n,Le p q'->SR P F S K N (QE (Nat×Nat×Nat)) (f n) (f' n) q')->SR P F S K N (QE (Nat×Nat×Nat)) (Instr.sliceBound x y c>>=f) (Instr.sliceBound x' y c>>=f') q:=
  λq x x' y c f f' hq hx hf=>(SR.sliceBound x x' (hx.mono hq) y c).aD λq' n xD=>hf q' n (hq.trans xD)
 cases mx<;>cases El<;>(try exact h3.elim)<;>cases hi<;>cases se<;>(try exact h2.elim)<;>cases lo<;>cases ED<;>(try exact h1.elim)
 .exact SR.pure rfl
 .exact hb p _ _ _ _ _ _ (Le.refl _) h1 λq n hq=>SR.pure rfl
 .exact hb p _ _ _ _ _ _ (Le.refl _) h2 λq n hq=>SR.pure rfl
 .exact hb p _ _ _ _ _ _ (Le.refl _) h2 λq n hq=>hb q _ _ _ _ _ _ hq h1 λq n hq=>SR.pure rfl
 .exact hb p _ _ _ _ _ _ (Le.refl _) h3 λq n hq=>SR.stuck
 .exact hb p _ _ _ _ _ _ (Le.refl _) h3 λq n hq=>SR.stuck
 .exact hb p _ _ _ _ _ _ (Le.refl _) h3 λq n hq=>hb q _ _ _ _ _ _ hq h2 λq n hq=>SR.pure rfl
 .exact hb p _ _ _ _ _ _ (Le.refl _) h3 λq n hq=>hb q _ _ _ _ _ _ hq h2 λq n hq=>hb q _ _ _ _ _ _ hq h1 λq n hq=>SR.pure rfl
def SR.zm (hl:p.l=true) (x x':fu) (h:VR S p x x') {y y':Nat} (hy:y<=y') (c:BoundsCode):SR P F S K N (QE Nat) (Instr.sliceBound x y c) (Instr.sliceBound x' y' c) p:=by
 unfold Instr.sliceBound;refine(SR.asIntOf h).aD λq ki hq=>?_;obtain⟨k,n⟩:=ki;simp only;by_cases h1:0<=n/\n<=(y:Int)
 .have h2:0<=n/\n<=(y':Int):=⟨h1.1,by omega⟩
  rw[zAF h1,zAF h2];exact SR.pure rfl
 .rw[zAG h1];unfold Go.boundsPanic;simp only;split
  .exact λ_=>.inl (hq.l.trans hl)
  .exact λ_=>.inl (.inl ⟨hq.l.trans hl,trivial⟩)
def SR.wH (hl:p.l=true) (len:Nat) {cap j0:Nat} (hc:cap<=j0) (h1:OV S p lo ED) (h2:OV S p hi se) (h3:OV S p mx El):
 SR P F S K N (λ_ a b=>a.1=b.1/\a.2.1=b.2.1/\(a.2.2=b.2.2\/(a.2.2=cap/\b.2.2=j0/\mx=none))) (Instr.sliceBounds true len cap lo hi mx) (Instr.sliceBounds true len j0 ED se El) p:=by
 have hb:∀(mx:Option fu) (q:Pi) (x x':fu) (y y':Nat) (c:BoundsCode) (f f':Nat->Sem (Nat×Nat×Nat)),y<=y'->Le p q->VR S p x x'->(∀q' n,Le p q'->SR P F S K N (λ_ a b=>a.1=b.1/\a.2.1=b.2.1/\(a.2.2=b.2.2\/(a.2.2=cap/\b.2.2=j0/\mx=none))) (f n) (f' n) q')->SR P F S K N (λ_ a b=>a.1=b.1/\a.2.1=b.2.1/\(a.2.2=b.2.2\/(a.2.2=cap/\b.2.2=j0/\mx=none))) (Instr.sliceBound x y c>>=f) (Instr.sliceBound x' y' c>>=f') q:=
  λmx q x x' y y' c f f' hy hq hx hf=>(SR.zm (hq.l.trans hl) x x' (hx.mono hq) hy c).aD λq' n xD=>hf q' n (hq.trans xD)
 have l0:∀n:Nat,n<=n:=λn=>zAB n;cases mx<;>cases El<;>(try exact h3.elim)<;>cases hi<;>cases se<;>(try exact h2.elim)<;>cases lo<;>cases ED<;>(try exact h1.elim)
 .exact SR.pure ⟨rfl,rfl,.inr ⟨rfl,rfl,rfl⟩⟩
 .exact hb _ p _ _ _ _ _ _ _ (l0 _) (Le.refl _) h1 λq n hq=>SR.pure ⟨rfl,rfl,.inr ⟨rfl,rfl,rfl⟩⟩
 .exact hb _ p _ _ _ _ _ _ _ hc (Le.refl _) h2 λq n hq=>SR.pure ⟨rfl,rfl,.inr ⟨rfl,rfl,rfl⟩⟩
 .exact hb _ p _ _ _ _ _ _ _ hc (Le.refl _) h2 λq n hq=>hb _ q _ _ _ _ _ _ _ (l0 _) hq h1 λq n hq=>SR.pure ⟨rfl,rfl,.inr ⟨rfl,rfl,rfl⟩⟩
 .exact hb _ p _ _ _ _ _ _ _ hc (Le.refl _) h3 λq n hq=>SR.stuck
 .exact hb _ p _ _ _ _ _ _ _ hc (Le.refl _) h3 λq n hq=>SR.stuck
 .exact hb _ p _ _ _ _ _ _ _ hc (Le.refl _) h3 λq n hq=>hb _ q _ _ _ _ _ _ _ (l0 _) hq h2 λq n hq=>SR.pure ⟨rfl,rfl,.inl rfl⟩
 .exact hb _ p _ _ _ _ _ _ _ hc (Le.refl _) h3 λq n hq=>hb _ q _ _ _ _ _ _ _ (l0 _) hq h2 λq n hq=>hb _ q _ _ _ _ _ _ _ (l0 _) hq h1 λq n hq=>SR.pure ⟨rfl,rfl,.inl rfl⟩
def SR.BA (x x':fu) (h:VR S p x x') (c:BoundsCode):SR P F S K N (λ_ a b=>a=0/\b=0) (Instr.sliceBound x 0 c) (Instr.sliceBound x' 0 c) p:=by
 unfold Instr.sliceBound;refine(SR.asIntOf h).aD λq ki hq=>?_;obtain⟨k,n⟩:=ki;simp only;split
 .exact SR.pure ⟨by omega,by omega⟩
 .exact SR.boundsPanic _ _ _ _
def SR.zn (b:Bool) (h1:OV S p lo ED) (h2:OV S p hi se) (h3:OV S p mx El):
 SR P F S K N (λ_ a b=>a=(0,0,0)/\b=(0,0,0)) (Instr.sliceBounds b 0 0 lo hi mx) (Instr.sliceBounds b 0 0 ED se El) p:=by
 have hb:∀(q:Pi) (x x':fu) (c:BoundsCode) (f f':Nat->Sem (Nat×Nat×Nat)),Le p q->VR S p x x'->(∀q',Le p q'->SR P F S K N (λ_ a b=>a=(0,0,0)/\b=(0,0,0)) (f 0) (f' 0) q')->SR P F S K N (λ_ a b=>a=(0,0,0)/\b=(0,0,0)) (Instr.sliceBound x 0 c>>=f) (Instr.sliceBound x' 0 c>>=f') q:=
  λq x x' c f f' hq hx hf=>(SR.BA x x' (hx.mono hq) c).bind λq' n n' xD hn=>by
   obtain⟨rfl,rfl⟩:=hn;exact hf q' (hq.trans xD)
 cases mx<;>cases El<;>(try exact h3.elim)<;>cases hi<;>cases se<;>(try exact h2.elim)<;>cases lo<;>cases ED<;>(try exact h1.elim)
 .exact SR.pure ⟨rfl,rfl⟩
 .exact hb p _ _ _ _ _ (Le.refl _) h1 λq hq=>SR.pure ⟨rfl,rfl⟩
 .exact hb p _ _ _ _ _ (Le.refl _) h2 λq hq=>SR.pure ⟨rfl,rfl⟩
 .exact hb p _ _ _ _ _ (Le.refl _) h2 λq hq=>hb q _ _ _ _ _ hq h1 λq hq=>SR.pure ⟨rfl,rfl⟩
 .exact hb p _ _ _ _ _ (Le.refl _) h3 λq hq=>SR.stuck
 .exact hb p _ _ _ _ _ (Le.refl _) h3 λq hq=>SR.stuck
 .exact hb p _ _ _ _ _ (Le.refl _) h3 λq hq=>hb q _ _ _ _ _ hq h2 λq hq=>SR.pure ⟨rfl,rfl⟩
 .exact hb p _ _ _ _ _ (Le.refl _) h3 λq hq=>hb q _ _ _ _ _ hq h2 λq hq=>hb q _ _ _ _ _ hq h1 λq hq=>SR.pure ⟨rfl,rfl⟩
def mB {a a':Option Addr} {c':Nat} (h:VR S p (.slice a l c) (.slice a' l' c')):l=l'/\((a=none/\a'=none/\c=c')\/(∃b b',a=some b/\a'=some b'/\iY p b b'/\((c=c'/\(S 999999=true->∀k,¬p.x b.block k))\/(p.l=true/\0<c/\b.spot=none/\∃k,p.x b.block k/\c'=c+k)))\/(l=0/\c=0/\∃b b',a=some b/\a'=some b'/\((p.l=true/\b.spot=some 0)\/(p.l=false/\c'=0)))):=by
 cases h with
 |dn=>exact⟨rfl,.inl ⟨rfl,rfl,rfl⟩⟩
 |slice o sp l c g hX=>exact⟨rfl,.inr (.inl ⟨_,_,rfl,rfl,⟨g,rfl,rfl⟩,.inl ⟨rfl,hX⟩⟩)⟩
 |dp o l hl g h0 hx=>exact⟨rfl,.inr (.inl ⟨_,_,rfl,rfl,⟨g,rfl,rfl⟩,.inr ⟨hl,h0,rfl,_,hx,rfl⟩⟩)⟩
 |fT o o' c' hl g=>exact⟨rfl,.inr (.inr ⟨rfl,rfl,_,_,rfl,rfl,.inl ⟨hl,rfl⟩⟩)⟩
 |ee hl a a'=>exact⟨rfl,.inr (.inr ⟨rfl,rfl,_,_,rfl,rfl,.inr ⟨hl,rfl⟩⟩)⟩
def SR.ok {Q:Pi->α->β->Prop} {s:Sem α} {s':Sem β} (h:pC P p->SR P F S K N Q s s' p):SR P F S K N Q s s' p:=λhp=>h hp hp
def noX (GX:p.l=true->S 999999=false) (ho:pC P p) (r:Nat):S 999999=true->∀k,¬p.x r k:=λh=>by
 cases hl:p.l with
 |true=>rw[GX hl]at h;cases h
 |false=>exact ho.wG hl r
def iY.slX {p:Pi} (x:iY p a a') (hl:p.l=true) (hs:a.spot=none) (l:Nat) {k:Nat} (h0:0<c) (hx:p.x a.block k):VR S p (.slice (some a) l c) (.slice (some a') l (c+k)):=by
 obtain⟨b,o,sp⟩:=a;obtain⟨b',o',sp'⟩:=a';obtain⟨h1,h2,h3⟩:=x;simp only at h1 h2 h3 hs;subst h2;subst h3;subst hs;exact .dp o l hl h1 h0 hx
def gp (a:Addr) (n:Nat):(a.add n).block=a.block:=by unfold Addr.add;split<;>rfl
def pJ (a:Addr) (n:Nat) (h:a.spot=none):(a.add n).spot=none:=by unfold Addr.add;split<;>simp_all
def Pp (q:Pi) (x v v':fu):Prop:=(∃b l c,x=.slice b l c)/\∃a a' l c',v=.slice (some a) l 0/\v'=.slice (some a') l c'/\q a.block a'.block/\a'.spot=none
def SR.slice (GX:p.l=true->S 999999=false) (t:a00) {x x':fu} {lo ED hi se mx El:Option fu} (hx:VR S p x x') (hE:p.l=true->∀b l c,x=.slice (some b) l c->b.spot=none) (h1:OV S p lo ED) (h2:OV S p hi se) (h3:OV S p mx El):
 SR P F S K N (λq v v'=>VR S q v v'\/(p.l=true/\mx=none/\Pp q x v v')) (Instr.slice t x lo hi mx) (Instr.slice t x' ED se El) p:=by
 unfold Instr.slice;refine SR.cN λd hd=>?_
 have Ja:∀arr,SR P F S K N (λq v v'=>VR S q v v'\/(p.l=true/\mx=none/\Pp q x v v')) (do
  let a<-Go.asAddr x
  let .array n elem<-Go.underlying arr|Go.stuck "Slice: array type expected"
  let(l,h,m)<-Instr.sliceBounds false n n lo hi mx
  let size<-Go.sizeOf elem
  Pure.pure (Value.slice (some (if m=l then a else a.add (l*size))) (h-l) (m-l))) (do
  let a<-Go.asAddr x'
  let .array n elem<-Go.underlying arr|Go.stuck "Slice: array type expected"
  let(l,h,m)<-Instr.sliceBounds false n n ED se El
  let size<-Go.sizeOf elem
  Pure.pure (Value.slice (some (if m=l then a else a.add (l*size))) (h-l) (m-l))) p:=by
  intro arr;refine(SR.asAddr hx).bind λq a a' hq ha=>?_;refine SR.cN λd hd=>?_;cases d with
  |array n elem=>
   simp only;refine(SR.sliceBounds false n n (h1.mono hq) (h2.mono hq) (h3.mono hq)).aD λq2 b cR=>?_;obtain⟨l,h,m⟩:=b;simp only;refine(SR.sizeOf elem).aD λq3 s ip=>?_;have ha:=(ha.mono cR).mono ip;refine SR.ok λho=>?_;have iP:=λr=>noX (λx=>GX (((hq.trans cR).trans ip).l.symm.trans x)) ho r;split
   .exact SR.pure (.inl (ha.sl (iP _) _ _))
   .exact SR.pure (.inl ((ha.add _).sl (iP _) _ _))
  |_=>exact SR.stuck
 cases d with
 |string=>
  cases hx with
  |string s=>
   simp only;cases mx<;>cases El<;>first|exact h3.elim|skip
   .simp only[Option.isSome_none,zAN,zBJ];refine(SR.sliceBounds false _ _ h1 h2 h3).aD λq2 b cR=>?_;exact SR.pure (.inl (.string _))
   .simp only[Option.isSome_some,zBV];exact SR.stuck
  |_=>exact SR.stuck
 |slice elem=>
  cases x<;>cases x'<;>first|(cases hx;done)|exact SR.stuck|skip
  rename_i a len cap a' zdl j0;obtain⟨rfl,hs⟩:=mB hx;simp only;have iP:∀{q:Pi},Le p q->pC P q->∀r,S 999999=true->∀k,¬q.x r k:=λhq ho r=>noX (λx=>GX (hq.l.symm.trans x)) ho r;rcases hs with⟨rfl,rfl,rfl⟩|⟨b,b',rfl,rfl,hb,⟨rfl,_⟩|⟨q7,h0,mt,k,UA,rfl⟩⟩|⟨rfl,rfl,b,b',rfl,rfl,⟨q7,mt⟩|⟨q7,rfl⟩⟩
  .refine(SR.sliceBounds true len cap h1 h2 h3).aD λq2 b cR=>?_;obtain⟨l,h,m⟩:=b;simp only;refine(SR.sizeOf elem).aD λq3 s ip=>?_;split<;>exact SR.pure (.inl (.dn _ _))
  .refine(SR.sliceBounds true len cap h1 h2 h3).aD λq2 b cR=>?_;obtain⟨l,h,m⟩:=b;simp only;refine(SR.sizeOf elem).aD λq3 s ip=>?_;have hb:=(hb.mono cR).mono ip;refine SR.ok λho=>?_;split
   .exact SR.pure (.inl (hb.sl (iP (cR.trans ip) ho _) _ _))
   .exact SR.pure (.inl ((hb.add _).sl (iP (cR.trans ip) ho _) _ _))
  .refine(SR.wH q7 len (zFX cap k) h1 h2 h3).bind λq2 x y cR tH=>?_;obtain⟨l,h,m⟩:=x;obtain⟨l',h',m'⟩:=y;obtain⟨e1,e2,e3⟩:=tH;simp only at e1 e2 e3;subst e1;subst e2;simp only;refine(SR.sizeOf elem).aD λq3 s ip=>?_;have hb:=(hb.mono cR).mono ip;have UA:=ip.x _ _ (cR.x _ _ UA);rcases e3 with e3|⟨e3,e4,e5⟩
   .subst e3;refine SR.ok λho=>?_;split
    .exact SR.pure (.inl (hb.sl (iP (cR.trans ip) ho _) _ _))
    .exact SR.pure (.inl ((hb.add _).sl (iP (cR.trans ip) ho _) _ _))
   .subst e3;subst e4;rcases zCX l m with hl|hl
    .have n1:¬m=l:=by omega
     have n2:¬m+k=l:=by omega
     rw[zAG n1,zAG n2];have e:m+k-l=(m-l)+k:=by omega
     rw[e];exact SR.pure (.inl ((hb.add _).slX ((cR.trans ip).l.trans q7) (pJ _ _ mt) _ (by omega) (by rw[gp];exact UA)))
    .have:m-l=0:=by omega
     have Jb:b'.spot=none:=hb.2.2.symm.trans mt;refine SR.pure (.inr ⟨q7,e5,⟨_,_,_,rfl⟩,?_⟩);rw[this];refine⟨if m=l then b else b.add (l*s),if m+k=l then b' else b'.add (l*s),h-l,m+k-l,?_,?_,?_,?_⟩
     .split<;>rfl
     .split<;>rfl
     .have h1:(if m=l then b else b.add (l*s)).block=b.block:=by split<;>simp only[gp]
      have h2:(if m+k=l then b' else b'.add (l*s)).block=b'.block:=by split<;>simp only[gp]
      rw[h1,h2];exact hb.1
     .split
      .exact Jb
      .exact pJ _ _ Jb
  .have:=hE q7 _ _ _ rfl;rw[mt]at this;cases this
  .refine(SR.zn true h1 h2 h3).bind λq2 c c' cR wI=>?_;obtain⟨rfl,rfl⟩:=wI;exact(SR.sizeOf elem).aD λq3 s ip=>SR.pure (.inl (.ee ((cR.trans ip).l.trans q7) _ _))
 |pointer arr=>exact Ja arr
 |_=>cases hx<;>exact SR.stuck
end
def cX (P:un):Nat->a00->Bool
 |0,_=>false
 |n+1,t=>match P.underlying t with
  |some .bool|some (.int _)|some .string=>true
  |some (.slice _)=>true
  |some (.struct fs)=>!P.stoodInHeld t&&fs.all λf=>cX P n f.type
  |some (.array _ e)=>cX P n e
  |_=>false
def aS (P:Program):Prop:=∀t i u,P.info? t=some i->i.desc≠ .named "sync.copyChecker" u
section
variable {P:un} {F:Array Func} {S:Nat->Bool} {K:Kz} {N:Nat} {p:Pi}
def SR.ue (f f':α->β->Sem (ForInStep β)):∀(l:List α),(∀x,x∈l->∀b q,Le p q->SR P F S K N (QE (ForInStep β)) (f x b) (f' x b) q)->∀(b:β) (q:Pi),Le p q->SR P F S K N (QE β) (forIn l b f) (forIn l b f') q
 | [],_,b,q,hq=>SR.pure rfl
 |x::l,h,b,q,hq=>by
  simp only[zGF];refine(h x (by simp) b q hq).aD λq' r xD=>?_;cases r with
  |done b=>exact SR.pure rfl
  |yield b=>exact SR.ue f f' l (λy hy=>h y (by simp[hy])) b q' (hq.trans xD)
def NR (p:Pi):Option (Addr×Bool)->Option (Addr×Bool)->Prop
 |none,none=>True
 |some x,some y=>iY p x.1 y.1/\x.2=y.2
 |_,_=>False
def SR.numberAt {r r':Nat} (h:p r r'):SR P F S K N (λq a b=>NR q a b) (Go.numberAt r) (Go.numberAt r') p:=by
 unfold Go.numberAt;refine(SR.shape h).aD λq x hq=>?_;cases x with
 |some y=>exact SR.pure trivial
 |none=>
  refine(SR.getObj (hq _ _ h)).bind λq o o' hq ho=>?_;cases ho with
  |number l h=>exact SR.pure ⟨h,rfl⟩
  |_=>exact SR.pure trivial
def SR.viewAt {r r':Nat} (h:p r r'):SR P F S K N (λ_ a b=>a=none/\b=none) (Go.viewAt r) (Go.viewAt r') p:=by
 unfold Go.viewAt;refine(SR.shape h).aD λq x hq=>?_;cases x with
 |some y=>exact SR.pure ⟨rfl,rfl⟩
 |none=>
  refine(SR.getObj (hq _ _ h)).bind λq o o' hq ho=>?_;cases ho<;>exact SR.pure ⟨rfl,rfl⟩
def SR.behindNumber (h:iY p a a'):SR P F S K N (λq x y=>iY q x.1 y.1/\x.2=y.2) (Go.behindNumber a) (Go.behindNumber a') p:=by
 unfold Go.behindNumber;refine(SR.numberAt h.1).bind λq x y hq tH=>SR.pure ?_;cases x<;>cases y<;>first|exact tH.elim|exact⟨h.mono hq,rfl⟩|exact tH
def SR.byteOf (h:iY p a a'):SR P F S K N (QE Nat) (Go.byteOf a) (Go.byteOf a') p:=by
 unfold Go.byteOf;rw[<-h.2.2];cases hs:a.spot with
 |some s=>exact SR.pure rfl
 |none=>
  refine SR.pF ?_;try simp only[kU,dF,ku,dG,eW,eU,eV,kr]
  unfold Go.noView;refine SR.bind (Q:=QE Unit) ?_ λq _ _ hq _=>?_
  .exact(SR.viewAt h.1).bind λq x y hq tH=>by rw[tH.1,tH.2];exact SR.pure rfl
  .refine(SR.shape (hq _ _ h.1)).aD λq x hq=>?_;cases x with
   |none=>exact SR.stuck
   |some x=>
    obtain⟨e,n⟩:=x;simp only;rw[<-h.2.1];split
    .exact SR.pure rfl
    .split
     .exact SR.pure rfl
     .exact SR.stuck
def SR.equalIn (hc:aS P):∀(d n:Nat) (t:a00) {p:Pi} {x x' y y':fu},cX P n t=true->VR S p x x'->VR S p y y'->SR P F S K N (QE Bool) (Op.equalIn d t x y) (Op.equalIn d t x' y') p
 |0,_,_,_,_,_,_,_,_,_,_=>SR.unsupported
 |d+1,0,_,_,_,_,_,_,h,_,_=>by simp[cX]at h
 |d+1,n+1,t,p,x,x',y,y',ht,hx,hy=>by
  simp only[Op.equalIn];refine SR.cN λu hu=>?_;simp only[cX,hu]at ht;cases u with
  |bool=>cases hx<;>cases hy<;>first|exact SR.pure rfl|exact SR.stuck
  |string=>cases hx<;>cases hy<;>first|exact SR.pure rfl|exact SR.stuck
  |int k=>
   cases hx<;>first|exact SR.stuck|(cases hy<;>first|exact SR.stuck|exact SR.unsupported|skip)
   .rename_i k1 a k2 b;simp only;split
    .exact SR.pure rfl
    .exact SR.stuck
   .rename_i k1 a r r' o sp h;rcases a with(_|a)|a<;>first|exact SR.pure rfl|exact SR.unsupported
   .rename_i r r' o sp h k1 a;rcases a with(_|a)|a<;>first|exact SR.pure rfl|exact SR.unsupported
   .rename_i r r' o sp h r2 LD o2 ra h2;intro hp;refine(SR.behindNumber (a:=⟨r,o,sp⟩) (a':=⟨r',o,sp⟩) ⟨h,rfl,rfl⟩).bind (λq a a' hq ha=>?_) hp;refine(SR.behindNumber (a:=⟨r2,o2,ra⟩) (a':=⟨LD,o2,ra⟩) ⟨hq _ _ h2,rfl,rfl⟩).bind λq2 b b' cR hb=>?_;have ha:=ha.1.mono cR;have hb:=hb.1;refine SR.pF ?_;try simp only[kU,dF,ku,dG,eW,eU,eV,kr]
    intro Lk;by_cases hg:(a.1.block==b.1.block&&decide (a.1.block<P.globals.size))=true
    .have Em:(a'.1.block==b'.1.block&&decide (a'.1.block<P.globals.size))=true:=by
      simp only[zAE,beq_iff_eq,zBP]at hg⊢;exact⟨(Lk.inj _ _ _ _ ha.1 hb.1 λ_=>hg.2).1 hg.1,(Lk.fix _ _ ha.1).1 hg.2⟩
     simp only[hg,Em,zBV];exact(SR.byteOf ha).aD (λq x hq=>(SR.byteOf (hb.mono hq)).aD λq y hq=>SR.pure rfl) Lk
    .simp only[hg,zBJ,zAN];by_cases Em:(a'.1.block==b'.1.block&&decide (a'.1.block<P.globals.size))=true
     .refine absurd ?_ hg;simp only[zAE,beq_iff_eq,zBP]at Em⊢;exact⟨(Lk.inj _ _ _ _ ha.1 hb.1 λ_=>(Lk.fix _ _ ha.1).2 Em.2).2 Em.1,(Lk.fix _ _ ha.1).2 Em.2⟩
     .simp only[Em,zBJ,zAN];refine SR.pG (λi hi=>?_) Lk;have bC:=λu=>hc t i u hi;generalize i.desc=ds at bC;cases ds<;>first|exact SR.unsupported|skip
      rename_i nm u;by_cases OQ:nm= "sync.copyChecker"
      .subst OQ;exact absurd rfl (bC u)
      .split
       .rename_i h3;exact absurd (by simpa using h3) (bC _)
       .exact SR.unsupported
  |slice e=>cases hx<;>cases hy<;>first|exact SR.pure rfl|exact SR.stuck
  |struct fs=>
   simp only[zAE,zCL]at ht;cases hx<;>first|exact SR.stuck|(cases hy<;>first|exact SR.stuck|skip)
   rename_i xs cW GY UB ys I5 hys gys;have ax:AR S p xs cW:=⟨GY,UB⟩
   have ay:AR S p ys I5:=⟨hys,gys⟩
   simp only;refine SR.pF ?_;try simp only[kU,dF,ku,dG,eW,eU,eV,kr]
   simp only[ht.1,zAN,zBJ]
   refine SR.aD (α:=Option Bool×Unit) ?_ λq r hq=>by
    split<;>exact SR.pure rfl
   rw[<-zEE,<-zEE]
   have cg:∀f∈fs.toList,cX P n f.type=true:=λf hf=>by
    obtain⟨i,hi,he⟩:=zCQ hf;have:=zBQ.1 ht.2 i (by simpa using hi);rw[<-he];simpa using this
   refine SR.ue (p:=p) _ _ fs.toList (λf hf b q2 cR=>?_) _ p (Le.refl _);have ax:=ax.mono cR;have ay:=ay.mono cR;split
   .refine(SR.part f.type ax _).bind λq3 u u' ip hu3=>?_;refine(SR.part f.type (ay.mono ip) _).bind λq4 v v' LE hv4=>?_;refine(SR.equalIn hc d n f.type (cg f hf) (hu3.mono LE) hv4).aD λq5 c XK=>?_;split<;>exact SR.pure rfl
   .exact SR.pure rfl
  |array len e=>
   cases hx<;>first|exact SR.stuck|(cases hy<;>first|exact SR.stuck|skip)
   rename_i xs cW GY UB ys I5 hys gys;have ax:AR S p xs cW:=⟨GY,UB⟩
   have ay:AR S p ys I5:=⟨hys,gys⟩
   simp only;refine(SR.sizeOf e).aD λq m hq=>?_
   refine SR.aD (α:=Option Bool×Unit) ?_ λq r hq=>by
    split<;>exact SR.pure rfl
   simp only[Std.Legacy.Range.forIn_eq_forIn_range'];refine SR.ue (p:=q) _ _ _ (λi hi b q2 cR=>?_) _ q (Le.refl _);have ax:=(ax.mono hq).mono cR;have ay:=(ay.mono hq).mono cR;refine(SR.part e ax _).bind λq3 u u' ip hu3=>?_;refine(SR.part e (ay.mono ip) _).bind λq4 v v' LE hv4=>?_;refine(SR.equalIn hc d n e ht (hu3.mono LE) hv4).aD λq5 c XK=>?_;split<;>exact SR.pure rfl
  |_=>cases ht
end
section
variable {P:un} {F:Array Func} {S:Nat->Bool} {K:Kz} {N:Nat} {p:Pi}
def SR.intArith (op:BinOp) (k:IntKind) (x y:Int):SR P F S K N (QV S) (Op.intArith op k x y) (Op.intArith op k x y) p:=by
 cases op<;>first|exact SR.pure (.int _ _)|exact SR.stuck
def SR.intDiv (op:BinOp) (k:IntKind) (x y:Int):SR P F S K N (QV S) (Op.intDiv op k x y) (Op.intDiv op k x y) p:=by
 unfold Op.intDiv;split
 .exact SR.err _
 .cases op<;>first|exact SR.pure (.int _ _)|exact SR.stuck
def SR.intBits (op:BinOp) (k:IntKind) (x y:Int):SR P F S K N (QV S) (Op.intBits op k x y) (Op.intBits op k x y) p:=by
 cases op<;>first|exact SR.pure (.int _ _)|exact SR.stuck
def SR.intCmp (op:BinOp) (x y:Int):SR P F S K N (QV S) (Op.intCmp op x y) (Op.intCmp op x y) p:=by
 cases op<;>first|exact SR.pure (.bool _)|exact SR.stuck
def SR.shift (op:BinOp) (k:IntKind) (x:Int) (k':IntKind) (y:Int):SR P F S K N (QV S) (Op.shift op k x k' y) (Op.shift op k x k' y) p:=by
 unfold Op.shift;split
 .exact SR.err _
 .cases op<;>first|exact SR.pure (.int _ _)|exact SR.stuck
def SR.stringOp (op:BinOp) (x y:ByteArray):SR P F S K N (QV S) (Op.stringOp op x y) (Op.stringOp op x y) p:=by
 cases op<;>first|exact SR.pure (.bool _)|exact SR.stuck|skip
 unfold Op.stringOp;simp only;split
 .exact SR.unsupported
 .exact SR.pure (.string _)
def SR.unary (op:UnOp) (h:VR S p x x'):SR P F S K N (QV S) (Op.unary op x) (Op.unary op x') p:=by
 cases op<;>cases h<;>first|exact SR.pure (.bool _)|exact SR.unsupported|exact SR.stuck|skip
 .rename_i k n;exact SR.intArith .sub k 0 n
 .rename_i k n;exact SR.intBits .xor k (if k.signed then-1 else k.max) n
def mC (ts:Array a00) (t:a00) (a:Addr) (y:fu):Builtin.unsafeAdd_ ts t #[.pointer (some a),y]=(Go.asInt y>>=λn=>
 if n=0 then(Go.viewAt a.block>>=fun v=>if v.isSome then Go.unsupported (.unsafePointer "Add: at a place where no cell lies")else Pure.pure (.pointer (some a)))
 else if n<0 then Go.unsupported (.unsafePointer "Add: a move by a count below zero")
 else Go.shape a.block>>=λs=>match s with
  |some (e,cells)=>Go.program>>=λp=>match cellAtBytes p p.depth e (cells/p.cellsOf e) a.off n with
   |some off=>Pure.pure (.pointer (some {a with off}))
   |none=>Go.unsupported (.unsafePointer "Add")
  |none=>Go.unsupported (.unsafePointer "Add")):=by
 unfold Builtin.unsafeAdd_;show(Go.asInt y>>=_)=_;congr 1;funext n;by_cases h0:n=0
 .simp only[h0,zBV];congr 1
 .by_cases h1:n<0
  .simp only[h0,h1,zBV,zBJ];rfl
  .simp only[h0,h1,zBJ];congr 1;funext s;cases s<;>rfl
def SR.unsafeAdd {ts ts':Array a00} {t':a00} (h:iY p a a') (hy:VR S p y y'):SR P F S K N (λq v v'=>∃b b',v=.pointer (some b)/\v'=.pointer (some b')/\iY q b b') (Builtin.unsafeAdd_ ts t #[.pointer (some a),y]) (Builtin.unsafeAdd_ ts' t' #[.pointer (some a'),y']) p:=by
 rw[mC,mC];refine(SR.asInt hy).aD λq n hq=>?_;have h:=h.mono hq;refine SR.ite (λ_=>?_) λ_=>SR.ite (λ_=>SR.unsupported) λ_=>?_
 .exact(SR.viewAt h.1).bind λq x y hq tH=>by
   rw[tH.1,tH.2];exact SR.pure ⟨_,_,rfl,rfl,h.mono hq⟩
 .refine(SR.shape h.1).aD λq x hq=>?_;cases x with
  |none=>exact SR.unsupported
  |some x=>
   obtain⟨e,cells⟩:=x;refine SR.pF ?_;try simp only[kU,dF,ku,dG,eW,eU,eV,kr]
   simp only[<-h.2.1];split
   .rename_i off _;exact SR.pure ⟨{a with off},{a' with off},rfl,rfl,hq _ _ h.1,rfl,h.2.2⟩
   .exact SR.unsupported
def SR.asNumber (h:iY p a a') (l:Bool):SR P F S K N (QV S) (Go.asNumber a l) (Go.asNumber a' l) p:=by
 unfold Go.asNumber;exact(SR.newObj (.number l h) λ_ _ _ _ _ _ _ a=>by cases a).bind λq r r' hq hr=>SR.pure (.ptr 0 none hr.1)
def SR.movedNumber (t:a00) (hx:VR S p x x') (hy:VR S p y y'):SR P F S K N (QV S) (Go.movedNumber t x y) (Go.movedNumber t x' y') p:=by
 unfold Go.movedNumber;refine SR.cN λd hd=>?_;dsimp only;refine SR.ite (λ_=>SR.unsupported) λ_=>?_;cases x with
 |pointer a=>
  cases a with
  |none=>
   cases hx;show SR P F S K N (QV S) (Builtin.unsafeAdd_ #[] t #[.pointer none,y]) (Builtin.unsafeAdd_ #[] t #[.pointer none,y']) p;show SR P F S K N (QV S) (Go.asInt y>>=_) (Go.asInt y'>>=_) p;refine(SR.asInt hy).aD λq n hq=>?_;dsimp only;refine SR.ite (λ_=>SR.unsupported) λ_=>SR.ite (λ_=>SR.unsupported) λ_=>SR.unsupported
  |some a=>
   obtain⟨r,o,sp⟩:=a;cases hx with
   |ptr _ _ h=>
   rename_i r';refine(SR.behindNumber (a:=⟨r,o,sp⟩) (a':=⟨r',o,sp⟩) ⟨h,rfl,rfl⟩).bind λq a a' hq ha=>?_;obtain⟨a,l⟩:=a;obtain⟨a',l'⟩:=a';obtain⟨ha,hl⟩:=ha;simp only at hl ha;subst hl;simp only;refine(SR.unsafeAdd ha (hy.mono hq)).bind λq v v' hq hv=>?_;obtain⟨b,b',rfl,rfl,h⟩:=hv;exact SR.asNumber h l
 |_=>
  cases hx<;>exact(SR.stuck:SR P F S K N (QV S) (Go.stuck "unsafe.Add: a pointer and an integer expected") _ p)
def SR.twoPlaces {b b':Addr} (ha:iY p a a') (hb:iY p b b'):SR P F S K N (QE (Nat×Nat)) (Op.twoPlaces a b) (Op.twoPlaces a' b') p:=by
 unfold Op.twoPlaces;refine SR.pF ?_;try simp only[kU,dF,ku,dG,eW,eU,eV,kr]
 intro hp
 have e:(a.block !=b.block||decide (a.block>=P.globals.size))=(a'.block !=b'.block||decide (a'.block>=P.globals.size)):=by
  have h1:=hp.inj _ _ _ _ ha.1 hb.1;have h2:=hp.fix _ _ ha.1;rw[zEF];simp only[zBM,bne_iff_ne,zBP,ne_eq];by_cases hg:a.block<P.globals.size
  .have h1:=h1 λ_=>hg;omega
  .omega
 rw[e];revert hp;show SR P F S K N (QE (Nat×Nat)) _ _ p;try dsimp only
 refine SR.ite (λ_=>SR.unsupported) λ_=>?_;exact(SR.byteOf ha).aD λq x hq=>(SR.byteOf (hb.mono hq)).aD λq y hq=>SR.pure rfl
def SR.addrSub (k:IntKind) {b b':Addr} (ha:iY p a a') (hb:iY p b b'):SR P F S K N (QV S) (Op.addrSub k a b) (Op.addrSub k a' b') p:=
 (SR.twoPlaces ha hb).aD λq x hq=>SR.pure (.int _ _)
def SR.addrCmp (op:BinOp) {b b':Addr} (ha:iY p a a') (hb:iY p b b'):SR P F S K N (QV S) (Op.addrCmp op a b) (Op.addrCmp op a' b') p:=by
 refine(SR.twoPlaces ha hb).aD λq x hq=>?_;cases op<;>first|exact SR.pure (.bool _)|exact SR.unsupported
def SR.addrMod (k:IntKind) (ha:iY p a a') (n:Int):SR P F S K N (QV S) (Op.addrMod k a n) (Op.addrMod k a' n) p:=by
 unfold Op.addrMod;refine(SR.shape ha.1).aD λq x hq=>?_;cases x with
 |none=>exact SR.unsupported
 |some x=>
  obtain⟨e,m⟩:=x;simp only;refine SR.pG λi hi=>?_;refine SR.ite (λ_=>SR.unsupported) λ_=>?_;exact(SR.byteOf (ha.mono hq)).aD λq x hq=>SR.pure (.int _ _)
def SR.equal (hc:aS P) (ht:cX P n t=true) (hx:VR S p x x') (hy:VR S p y y'):SR P F S K N (QE Bool) (Op.equal t x y) (Op.equal t x' y') p:=
 SR.equalIn hc _ n t ht hx hy
def nY (P:un) (op:BinOp) (t:a00):Bool:=
 match op with
 |.eql|.neq=>cX P 10 t&&!P.eqGuardType P.depth t
 |.add|.sub=>match P.underlying t with|some .unsafePointer=>false|_=>true
 |_=>true
end
section
variable {P:un} {F:Array Func} {S:Nat->Bool} {K:Kz} {N:Nat} {p:Pi}
def SR.UC (op:BinOp) (t:a00) (k k':IntKind) (a b:Int):SR P F S K N (QV S) (Go.binOp op t (.int k a) (.int k' b)) (Go.binOp op t (.int k a) (.int k' b)) p:=by
 have key:∀(s:Sem Value),SR P F S K N (QV S) s s p->SR P F S K N (QV S) (if k≠k' then Go.stuck "BinOp: operands of different kinds" else s) (if k≠k' then Go.stuck "BinOp: operands of different kinds" else s) p:=fun s h=>SR.ite (fun _=>SR.stuck) fun _=>h;cases op;case shl=>exact SR.shift .shl k a k' b
 case shr=>exact SR.shift .shr k a k' b
 case quo=>exact key _ (SR.intDiv .quo k a b)
 case rem=>exact key _ (SR.intDiv .rem k a b)
 case add=>exact key _ (SR.intArith .add k a b)
 case sub=>exact key _ (SR.intArith .sub k a b)
 case mul=>exact key _ (SR.intArith .mul k a b)
 case and=>exact key _ (SR.intBits .and k a b)
 case or=>exact key _ (SR.intBits .or k a b)
 case xor=>exact key _ (SR.intBits .xor k a b)
 case andNot=>exact key _ (SR.intBits .andNot k a b)
 all_goals exact key _ (SR.intCmp _ a b)
def SR.UD (op:BinOp) (t:a00) (a b:ByteArray):SR P F S K N (QV S) (Go.binOp op t (.string a) (.string b)) (Go.binOp op t (.string a) (.string b)) p:=by
 cases op;case add=>exact SR.stringOp .add a b
 case sub=>exact SR.stringOp .sub a b
 case mul=>exact SR.stringOp .mul a b
 case quo=>exact SR.stringOp .quo a b
 case rem=>exact SR.stringOp .rem a b
 case and=>exact SR.stringOp .and a b
 case or=>exact SR.stringOp .or a b
 case xor=>exact SR.stringOp .xor a b
 case andNot=>exact SR.stringOp .andNot a b
 case shl=>exact SR.stringOp .shl a b
 case shr=>exact SR.stringOp .shr a b
 case eql=>exact SR.stringOp .eql a b
 case neq=>exact SR.stringOp .neq a b
 case lss=>exact SR.stringOp .lss a b
 case leq=>exact SR.stringOp .leq a b
 case gtr=>exact SR.stringOp .gtr a b
 case geq=>exact SR.stringOp .geq a b
def fI:fu->fu->Bool
 |.int _ _,.int _ _|.string _,.string _=>true
 |_,_=>false
def SR.Pq (hc:aS P) (t:a00) (hx:VR S p x x') (hy:VR S p y y') (h:fI x y=false):SR P F S K N (QV S) (Go.binOp .mul t x y) (Go.binOp .mul t x' y') p:=by
 cases hx<;>cases hy<;>first|exact SR.stuck|exact SR.unsupported|(cases h;done)|skip
def SR.Pr (hc:aS P) (t:a00) (hx:VR S p x x') (hy:VR S p y y') (h:fI x y=false):SR P F S K N (QV S) (Go.binOp .quo t x y) (Go.binOp .quo t x' y') p:=by
 cases hx<;>cases hy<;>first|exact SR.stuck|exact SR.unsupported|(cases h;done)|skip
def SR.Ps (hc:aS P) (t:a00) (hx:VR S p x x') (hy:VR S p y y') (h:fI x y=false):SR P F S K N (QV S) (Go.binOp .rem t x y) (Go.binOp .rem t x' y') p:=by
 cases hx<;>cases hy<;>first|exact SR.stuck|exact SR.unsupported|(cases h;done)|skip
 all_goals
  rename_i r r' o sp g k n;exact SR.bind (SR.behindNumber (a:=⟨r,o,sp⟩) (a':=⟨r',o,sp⟩) ⟨g,rfl,rfl⟩) λq a a' hq ha=>(SR.addrMod k ha.1 n)
def SR.Pu (hc:aS P) (t:a00) (hx:VR S p x x') (hy:VR S p y y') (h:fI x y=false):SR P F S K N (QV S) (Go.binOp .and t x y) (Go.binOp .and t x' y') p:=by
 cases hx<;>cases hy<;>first|exact SR.stuck|exact SR.unsupported|(cases h;done)|skip
 .rename_i k n r r' o sp g;exact SR.bind (SR.behindNumber (a:=⟨r,o,sp⟩) (a':=⟨r',o,sp⟩) ⟨g,rfl,rfl⟩) λq a a' hq ha=>SR.addrMod k ha.1 (n+1)
 .rename_i r r' o sp g k n;exact SR.bind (SR.behindNumber (a:=⟨r,o,sp⟩) (a':=⟨r',o,sp⟩) ⟨g,rfl,rfl⟩) λq a a' hq ha=>SR.addrMod k ha.1 (n+1)
def SR.UE (hc:aS P) (t:a00) (hx:VR S p x x') (hy:VR S p y y') (h:fI x y=false):SR P F S K N (QV S) (Go.binOp .or t x y) (Go.binOp .or t x' y') p:=by
 cases hx<;>cases hy<;>first|exact SR.stuck|exact SR.unsupported|(cases h;done)|skip
def SR.Pv (hc:aS P) (t:a00) (hx:VR S p x x') (hy:VR S p y y') (h:fI x y=false):SR P F S K N (QV S) (Go.binOp .xor t x y) (Go.binOp .xor t x' y') p:=by
 cases hx<;>cases hy<;>first|exact SR.stuck|exact SR.unsupported|(cases h;done)|skip
def SR.EE (hc:aS P) (t:a00) (hx:VR S p x x') (hy:VR S p y y') (h:fI x y=false):SR P F S K N (QV S) (Go.binOp .andNot t x y) (Go.binOp .andNot t x' y') p:=by
 cases hx<;>cases hy<;>first|exact SR.stuck|exact SR.unsupported|(cases h;done)|skip
def SR.Pw (hc:aS P) (t:a00) (hx:VR S p x x') (hy:VR S p y y') (h:fI x y=false):SR P F S K N (QV S) (Go.binOp .shl t x y) (Go.binOp .shl t x' y') p:=by
 cases hx<;>cases hy<;>first|exact SR.stuck|exact SR.unsupported|(cases h;done)|skip
def SR.Px (hc:aS P) (t:a00) (hx:VR S p x x') (hy:VR S p y y') (h:fI x y=false):SR P F S K N (QV S) (Go.binOp .shr t x y) (Go.binOp .shr t x' y') p:=by
 cases hx<;>cases hy<;>first|exact SR.stuck|exact SR.unsupported|(cases h;done)|skip
def SR.Py (hc:aS P) (t:a00) (hx:VR S p x x') (hy:VR S p y y') (h:fI x y=false):SR P F S K N (QV S) (Go.binOp .lss t x y) (Go.binOp .lss t x' y') p:=by
 cases hx<;>cases hy<;>first|exact SR.stuck|exact SR.unsupported|(cases h;done)|skip
 .rename_i r r' o sp g r2 LD o2 ra g2
  exact SR.bind (SR.behindNumber (a:=⟨r,o,sp⟩) (a':=⟨r',o,sp⟩) ⟨g,rfl,rfl⟩) λq a a' hq ha=>
   SR.bind (SR.behindNumber (a:=⟨r2,o2,ra⟩) (a':=⟨LD,o2,ra⟩) ⟨hq _ _ g2,rfl,rfl⟩) λq2 b b' cR hb=>SR.addrCmp .lss (ha.1.mono cR) hb.1
def SR.Pz (hc:aS P) (t:a00) (hx:VR S p x x') (hy:VR S p y y') (h:fI x y=false):SR P F S K N (QV S) (Go.binOp .leq t x y) (Go.binOp .leq t x' y') p:=by
 cases hx<;>cases hy<;>first|exact SR.stuck|exact SR.unsupported|(cases h;done)|skip
 .rename_i r r' o sp g r2 LD o2 ra g2
  exact SR.bind (SR.behindNumber (a:=⟨r,o,sp⟩) (a':=⟨r',o,sp⟩) ⟨g,rfl,rfl⟩) λq a a' hq ha=>
   SR.bind (SR.behindNumber (a:=⟨r2,o2,ra⟩) (a':=⟨LD,o2,ra⟩) ⟨hq _ _ g2,rfl,rfl⟩) λq2 b b' cR hb=>SR.addrCmp .leq (ha.1.mono cR) hb.1
def SR.PA (hc:aS P) (t:a00) (hx:VR S p x x') (hy:VR S p y y') (h:fI x y=false):SR P F S K N (QV S) (Go.binOp .gtr t x y) (Go.binOp .gtr t x' y') p:=by
 cases hx<;>cases hy<;>first|exact SR.stuck|exact SR.unsupported|(cases h;done)|skip
 .rename_i r r' o sp g r2 LD o2 ra g2
  exact SR.bind (SR.behindNumber (a:=⟨r,o,sp⟩) (a':=⟨r',o,sp⟩) ⟨g,rfl,rfl⟩) λq a a' hq ha=>
   SR.bind (SR.behindNumber (a:=⟨r2,o2,ra⟩) (a':=⟨LD,o2,ra⟩) ⟨hq _ _ g2,rfl,rfl⟩) λq2 b b' cR hb=>SR.addrCmp .gtr (ha.1.mono cR) hb.1
def SR.PB (hc:aS P) (t:a00) (hx:VR S p x x') (hy:VR S p y y') (h:fI x y=false):SR P F S K N (QV S) (Go.binOp .geq t x y) (Go.binOp .geq t x' y') p:=by
 cases hx<;>cases hy<;>first|exact SR.stuck|exact SR.unsupported|(cases h;done)|skip
 .rename_i r r' o sp g r2 LD o2 ra g2
  exact SR.bind (SR.behindNumber (a:=⟨r,o,sp⟩) (a':=⟨r',o,sp⟩) ⟨g,rfl,rfl⟩) λq a a' hq ha=>
   SR.bind (SR.behindNumber (a:=⟨r2,o2,ra⟩) (a':=⟨LD,o2,ra⟩) ⟨hq _ _ g2,rfl,rfl⟩) λq2 b b' cR hb=>SR.addrCmp .geq (ha.1.mono cR) hb.1
def SR.PC (hc:aS P) (t:a00) (hu:P.underlying t≠some .unsafePointer) (hx:VR S p x x') (hy:VR S p y y') (h:fI x y=false):SR P F S K N (QV S) (Go.binOp .add t x y) (Go.binOp .add t x' y') p:=by
 have key:∀{a a' b b':fu},VR S p a a'->VR S p b b'->SR P F S K N (QV S) (Go.underlying t>>=λu=>if(match u with|.unsafePointer=>true|_=>false)=true then Go.movedPointer t a b else Go.movedNumber t a b) (Go.underlying t>>=λu=>if(match u with|.unsafePointer=>true|_=>false)=true then Go.movedPointer t a' b' else Go.movedNumber t a' b') p:=by
  intro a a' b b' ha hb;refine SR.cN λd hd=>?_;have bC:d≠ .unsafePointer:=λe=>hu (e▸hd);cases d<;>first|exact absurd rfl bC|exact SR.movedNumber t ha hb
 have xE:=hx;have hy0:=hy;cases hx<;>cases hy<;>first|exact SR.stuck|exact SR.unsupported|(cases h;done)|exact key xE hy0|exact SR.movedNumber t hy0 xE
def SR.PD (hc:aS P) (t:a00) (hx:VR S p x x') (hy:VR S p y y') (h:fI x y=false):SR P F S K N (QV S) (Go.binOp .sub t x y) (Go.binOp .sub t x' y') p:=by
 have xE:=hx;cases hx<;>cases hy<;>first|exact SR.stuck|exact SR.unsupported|(cases h;done)|skip
 .rename_i k n;exact SR.movedNumber t xE (.int k (-n))
 .rename_i r r' o sp g k n;exact SR.movedNumber t xE (.int k (-n))
 .rename_i r r' o sp g r2 LD o2 ra g2
  exact SR.bind (SR.behindNumber (a:=⟨r,o,sp⟩) (a':=⟨r',o,sp⟩) ⟨g,rfl,rfl⟩) λq a a' hq ha=>
   SR.bind (SR.behindNumber (a:=⟨r2,o2,ra⟩) (a':=⟨LD,o2,ra⟩) ⟨hq _ _ g2,rfl,rfl⟩) λq2 b b' cR hb=>SR.addrSub .u64 (ha.1.mono cR) hb.1
def aE.inP {k:un->Sem α} (h:aE P (k P)):aE P (Sem.program k):=λw es=>h w es
def aE.stuck (x:String):aE P (Go.stuck x:Sem α):=λw es=>⟨_,w,es,rfl,trivial⟩
def kV (ht:cX P n t=true) (h:x=.tuple #[]\/y=.tuple #[]):aE P (Op.equal t x y):=by
 obtain⟨d,hd⟩:∃d,Op.maxDepth=d+1:=⟨_,rfl⟩
 unfold Op.equal;rw[hd];simp only[Op.equalIn];unfold Go.underlying;refine aE.inP (k:=fun P=>Sem.bind (match P.underlying t with|some i=>Pure.pure i|none=>Go.stuck "no such type") _) ?_;cases n with
 |zero=>simp[cX]at ht
 |succ n=>
 cases hu:P.underlying t with
 |none=>exact aE.bind (aE.stuck _) _
 |some u=>
  simp only[cX,hu]at ht;cases u<;>first|(cases ht;done)|skip
  all_goals rcases h with rfl|rfl
  all_goals first
   |exact λw es=>⟨_,w,es,rfl,trivial⟩
   |(cases y<;>exact λw es=>⟨_,w,es,rfl,trivial⟩)
   |(cases x<;>first|exact λw es=>⟨_,w,es,rfl,trivial⟩|(rename_i a;cases a<;>exact λw es=>⟨_,w,es,rfl,trivial⟩)|(rename_i a l c;cases a<;>cases l<;>cases c<;>exact λw es=>⟨_,w,es,rfl,trivial⟩))
def kW (f:Bool->Sem β):zk (Op.equal t x y>>=f)=true:=by
 obtain⟨d,hd⟩:∃d,Op.maxDepth=d+1:=⟨_,rfl⟩
 unfold Op.equal;rw[hd];rfl
def tI (t:a00) (h:fI x y=false) (hj:x=.tuple #[]\/y=.tuple #[]):Go.binOp .eql t x y=(Op.equal t x y>>=λb=>Pure.pure (.bool b)):=by
 rcases hj with rfl|rfl
 .cases y<;>rfl
 .cases x<;>rfl
def tJ (t:a00) (h:fI x y=false) (hj:x=.tuple #[]\/y=.tuple #[]):Go.binOp .neq t x y=(Op.equal t x y>>=λb=>Pure.pure (.bool !b)):=by
 rcases hj with rfl|rfl
 .cases y<;>rfl
 .cases x<;>rfl
def SR.tI (hc:aS P) (t:a00) (ht:cX P n t=true) (hx:VR S p x x') (hy:VR S p y y') (h:fI x y=false):SR P F S K N (QV S) (Go.binOp .eql t x y) (Go.binOp .eql t x' y') p:=by
 by_cases hj:p.l=false/\(x=.tuple #[]\/y=.tuple #[])
 .rw[aC.tI t h hj.2];exact SR.kS (.inr ⟨hj.1,aE.bind (kV ht hj.2) _⟩) (kW _)
 have key:SR P F S K N (QV S) (Op.equal t x y>>=λb=>Pure.pure (.bool b)) (Op.equal t x' y'>>=λb=>Pure.pure (.bool b)) p:=(SR.equal hc ht hx hy).aD λq b hq=>SR.pure (.bool b);cases hx<;>cases hy<;>first|exact key|(cases h;done)|exact absurd ⟨by assumption,.inl rfl⟩ hj|exact absurd ⟨by assumption,.inr rfl⟩ hj
def SR.tJ (hc:aS P) (t:a00) (ht:cX P n t=true) (hx:VR S p x x') (hy:VR S p y y') (h:fI x y=false):SR P F S K N (QV S) (Go.binOp .neq t x y) (Go.binOp .neq t x' y') p:=by
 by_cases hj:p.l=false/\(x=.tuple #[]\/y=.tuple #[])
 .rw[aC.tJ t h hj.2];exact SR.kS (.inr ⟨hj.1,aE.bind (kV ht hj.2) _⟩) (kW _)
 have key:SR P F S K N (QV S) (Op.equal t x y>>=λb=>Pure.pure (.bool !b)) (Op.equal t x' y'>>=λb=>Pure.pure (.bool !b)) p:=(SR.equal hc ht hx hy).aD λq b hq=>SR.pure (.bool !b);cases hx<;>cases hy<;>first|exact key|(cases h;done)|exact absurd ⟨by assumption,.inl rfl⟩ hj|exact absurd ⟨by assumption,.inr rfl⟩ hj
def SR.binOp (hc:aS P) (op:BinOp) (t:a00) (ho:nY P op t=true) (hx:VR S p x x') (hy:VR S p y y'):SR P F S K N (QV S) (Go.binOp op t x y) (Go.binOp op t x' y') p:=by
 cases hp:fI x y with
 |true=>
  cases hx<;>first|(cases hp;done)|(cases hy<;>first|(cases hp;done)|exact SR.UC op t _ _ _ _|exact SR.UD op t _ _)
 |false=>
  cases op;case add=>exact SR.PC hc t (λe=>by simp[nY,e]at ho) hx hy hp
  case sub=>exact SR.PD hc t hx hy hp
  case mul=>exact SR.Pq hc t hx hy hp
  case quo=>exact SR.Pr hc t hx hy hp
  case rem=>exact SR.Ps hc t hx hy hp
  case and=>exact SR.Pu hc t hx hy hp
  case or=>exact SR.UE hc t hx hy hp
  case xor=>exact SR.Pv hc t hx hy hp
  case andNot=>exact SR.EE hc t hx hy hp
  case shl=>exact SR.Pw hc t hx hy hp
  case shr=>exact SR.Px hc t hx hy hp
  case lss=>exact SR.Py hc t hx hy hp
  case leq=>exact SR.Pz hc t hx hy hp
  case gtr=>exact SR.PA hc t hx hy hp
  case geq=>exact SR.PB hc t hx hy hp
  case eql=>exact SR.tI hc t (by simp only[nY,zAE]at ho;exact ho.1) hx hy hp
  case neq=>exact SR.tJ hc t (by simp only[nY,zAE]at ho;exact ho.1) hx hy hp
end
section
variable {P:un} {F:Array Func} {S:Nat->Bool} {K:Kz} {N:Nat} {p:Pi}
def SR.EF (t:a00) (ht:cX P n t=true):∀d,SR P F S K N (QE Bool) (Op.eqGuardIn d t .nilIface .nilIface) (Op.eqGuardIn d t .nilIface .nilIface) p
 |0=>SR.unsupported
 |d+1=>by
  simp only[Op.eqGuardIn];refine SR.cN λu hu=>?_;cases n with
  |zero=>simp[cX]at ht
  |succ n=>
   simp only[cX,hu]at ht;cases u<;>first|exact SR.pure rfl|(cases ht;done)
def gZ (t:a00) (x y:Operand) (a b:fu):Sem Unit:=
 match a,b with
 |.nilIface,.nilIface=>
  if((x matches .const _)||(y matches .const _))=true then Pure.pure ()
  else Op.eqGuardIn Op.maxDepth t .nilIface .nilIface>>=fun g=>if g=true then Go.unsupported (.noEntry "binop/eql: two nil values of an interface type with methods, neither of them the literal nil")else Pure.pure ()
 |.agg xs,.agg ys=>Go.program>>=λq=>Go.program>>=λr=>
  if(!q.eqGuardType r.depth t)=true then Pure.pure ()
  else Op.eqGuardIn Op.maxDepth t (.agg xs) (.agg ys)>>=fun g=>if g=true then Go.unsupported (.noEntry "binop/eql: two nil values of an interface type with methods, in a part of a struct or an array")else Pure.pure ()
 |_,_=>Pure.pure ()
def rb (t:a00) (x y:Operand) (a b:fu):Go.eqGuard .eql t x y a b=gZ t x y a b:=by
 cases a<;>cases b<;>rfl
def rc (t:a00) (x y:Operand) (a b:fu):Go.eqGuard .neq t x y a b=gZ t x y a b:=by
 cases a<;>cases b<;>rfl
def SR.gZ (t:a00) (ht:cX P 10 t=true) (hg:P.eqGuardType P.depth t=false) (x y:Operand) {a a':fu} (ha:VR S p a a') (hb:VR S p b b') (hja:p.l=false->a≠ .tuple #[]) (zo:p.l=false->b≠ .tuple #[]):SR P F S K N (QE Unit) (gZ t x y a b) (gZ t x y a' b') p:=by
 cases ha<;>first|exact SR.pure rfl|exact absurd rfl (hja (by assumption))|(cases hb<;>first|exact SR.pure rfl|exact absurd rfl (zo (by assumption))|skip)
 .refine SR.ite (λ_=>SR.pure rfl) λ_=>?_;exact(SR.EF t ht Op.maxDepth).aD λq g hq=>SR.ite (λ_=>SR.unsupported) λ_=>SR.pure rfl
 .refine SR.pF (SR.pF ?_);have Em:(ae P F).eqGuardType (ae P F).depth t=false:=by rw[kr,mA,hg]
  rw[hg,Em];exact SR.pure rfl
def SR.eqGuard (op:BinOp) (t:a00) (ho:nY P op t=true) (x y:Operand) {a a':fu} (ha:VR S p a a') (hb:VR S p b b') (hj:p.l=false->¬((op=.eql\/op=.neq)/\(a=.tuple #[]\/b=.tuple #[]))):SR P F S K N (QE Unit) (Go.eqGuard op t x y a b) (Go.eqGuard op t x y a' b') p:=by
 cases op
 case eql=>
  simp only[nY,zAE,zCL]at ho;rw[rb,rb];exact SR.gZ t ho.1 ho.2 x y ha hb (λx e=>hj x ⟨.inl rfl,.inl e⟩) λx e=>hj x ⟨.inl rfl,.inr e⟩
 case neq=>
  simp only[nY,zAE,zCL]at ho;rw[rc,rc];exact SR.gZ t ho.1 ho.2 x y ha hb (λx e=>hj x ⟨.inr rfl,.inl e⟩) λx e=>hj x ⟨.inr rfl,.inr e⟩
 all_goals exact SR.pure rfl
def be (P:un) (φ:α->Prop):Sem α->Prop
 |.pure a=>φ a
 |.load _ _ k=>∀v,be P φ (k v)
 |.store _ _ _ k=>be P φ k
 |.new _ k=>∀r,be P φ (k r)
 |.shape _ k=>∀x,be P φ (k x)
 |.freeze _ _ k=>be P φ k
 |.frozen _ k=>∀x,be P φ (k x)
 |.getObj _ k=>∀o,be P φ (k o)
 |.setObj _ _ k=>be P φ k
 |.choose _ k=>∀n,be P φ (k n)
 |.sys _ k=>∀x,be P φ (k x)
 |.program k=>be P φ (k P)
 |.mark _ k=>be P φ k
 |.halt _=>True
def be.mono {φ ψ:α->Prop} (h:∀a,φ a->ψ a):∀{s:Sem α},be P φ s->be P ψ s:=by
 intro s;induction s with
 |pure a=>exact h a
 |load m a k ih=>exact λg v=>ih v (g v)
 |store m a v k ih=>exact λg=>ih g
 |new o k ih=>exact λg r=>ih r (g r)
 |shape r k ih=>exact λg x=>ih x (g x)
 |freeze a n k ih=>exact λg=>ih g
 |frozen a k ih=>exact λg x=>ih x (g x)
 |getObj r k ih=>exact λg o=>ih o (g o)
 |setObj r o k ih=>exact λg=>ih g
 |choose q k ih=>exact λg n=>ih n (g n)
 |sys c k ih=>exact λg x=>ih x (g x)
 |program k ih=>exact λg=>ih P g
 |mark m k ih=>exact λg=>ih g
 |halt x=>exact λg=>g
def be.bind {φ:α->Prop} {ψ:β->Prop} {f:α->Sem β} (g:∀a,φ a->be P ψ (f a)):∀{s:Sem α},be P φ s->be P ψ (s>>=f):=by
 intro s;induction s with
 |pure a=>exact g a
 |load m a k ih=>exact λh v=>ih v (h v)
 |store m a v k ih=>exact λh=>ih h
 |new o k ih=>exact λh r=>ih r (h r)
 |shape r k ih=>exact λh x=>ih x (h x)
 |freeze a n k ih=>exact λh=>ih h
 |frozen a k ih=>exact λh x=>ih x (h x)
 |getObj r k ih=>exact λh o=>ih o (h o)
 |setObj r o k ih=>exact λh=>ih h
 |choose q k ih=>exact λh n=>ih n (h n)
 |sys c k ih=>exact λh x=>ih x (h x)
 |program k ih=>exact λh=>ih P h
 |mark m k ih=>exact λh=>ih h
 |halt x=>exact λ_=>trivial
def be.all:∀(s:Sem α),be P (λ_=>True) s:=by
 intro s;induction s with
 |pure a=>trivial
 |load m a k ih=>exact ih
 |store m a v k ih=>exact ih
 |new o k ih=>exact ih
 |shape r k ih=>exact ih
 |freeze a n k ih=>exact ih
 |frozen a k ih=>exact ih
 |getObj r k ih=>exact ih
 |setObj r o k ih=>exact ih
 |choose q k ih=>exact ih
 |sys c k ih=>exact ih
 |program k ih=>exact ih P
 |mark m k ih=>exact ih
 |halt x=>trivial
def be.YK {ψ:β->Prop} {f:α->Sem β} {s:Sem α} (g:∀a,be P ψ (f a)):be P ψ (s>>=f):=be.bind (λa _=>g a) (be.all s)
def be.forIn {f:α->β->Sem (ForInStep β)} (I:List α->β->Prop) (J:β->Prop) (h0:∀b,I [] b->J b):∀(l:List α),(∀x m b,I (x::m) b->be P (λr=>match r with|.done c=>J c|.yield c=>I m c) (f x b))->∀b,I l b->be P J (forIn l b f)
 | [],_,b,h=>h0 b h
 |x::l,g,b,h=>by
  simp only[zGF];refine be.bind (φ:=λr=>match r with|.done c=>J c|.yield c=>I l c) (λr hr=>?_) (g x l b h);cases r with
  |done c=>exact hr
  |yield c=>exact be.forIn I J h0 l g c hr
def tF.only {Q:Pi->α->β->Prop} {φ:α->Prop}:∀{s:Sem α} {s':Sem β} {p:Pi},tF P F S K N Q s s' p->be P φ s->tF P F S K N (λq a b=>Q q a b/\φ a) s s' p:=by
 intro s;induction s with
 |pure a=>intro s' p h g;cases s'<;>first|exact⟨h,g⟩|exact h.elim
 |load m a k ih=>intro s' p h g;cases s'<;>first|exact⟨h.1,h.2.1,h.2.2.1,λv v' x=>ih v (h.2.2.2 v v' x) (g v)⟩|exact h.elim
 |store m a v k ih=>intro s' p h g;cases s'<;>first|exact⟨h.1,h.2.1,h.2.2.1,h.2.2.2.1,ih h.2.2.2.2 g⟩|exact h.elim
 |new o k ih=>intro s' p h g;cases s'<;>first|exact⟨h.1,h.2.1,λr r' q a b c d n=>ih r (h.2.2 r r' q a b c d n) (g r)⟩|exact h.elim
 |shape r k ih=>
  intro s' p h g;rcases h with h|⟨r',k',rfl,h1,h2⟩
  .exact .inl h
  .exact .inr ⟨r',k',rfl,h1,λx=>ih x (h2 x) (g x)⟩
 |freeze a n k ih=>
  intro s' p h g;rcases h with h|⟨a',k',rfl,h1,h2,h3⟩
  .exact .inl h
  .exact .inr ⟨a',k',rfl,h1,h2,ih h3 g⟩
 |frozen a k ih=>intro s' p h g;exact h
 |getObj r k ih=>intro s' p h g;cases s'<;>first|exact⟨h.1,λo o' a=>ih o (h.2 o o' a) (g o)⟩|exact h.elim
 |setObj r o k ih=>intro s' p h g;cases s'<;>first|exact⟨h.1,h.2.1,h.2.2.1,ih h.2.2.2 g⟩|exact h.elim
 |choose q k ih=>
  intro s' p h g;rcases h with h|⟨k',rfl,h1⟩
  .exact .inl h
  .exact .inr ⟨k',rfl,λn=>ih n (h1 n) (g n)⟩
 |sys c k ih=>intro s' p h g;exact h
 |program k ih=>
  intro s' p h g;rcases h with h|⟨k',rfl,h1⟩
  .exact .inl h
  .exact .inr ⟨k',rfl,ih P h1 g⟩
 |mark m k ih=>
  intro s' p h g;rcases h with h|h|⟨rfl,k',rfl,h1⟩
  .exact .inl h
  .exact .inr (.inl h)
  .exact .inr (.inr ⟨rfl,k',rfl,ih h1 g⟩)
 |halt x=>intro s' p h g;exact h
def SR.only {Q:Pi->α->β->Prop} {φ:α->Prop} {s:Sem α} {s':Sem β} (h:SR P F S K N Q s s' p) (g:be P φ s):SR P F S K N (λq a b=>Q q a b/\φ a) s s' p:=λhp=>tF.only (h hp) g
def be.cN {γ:Type} {ψ:γ->Prop} {f:TypeDesc->Sem γ} (g:∀i,P.underlying t=some i->be P ψ (f i)):be P ψ (Go.underlying t>>=f):=by
 unfold Go.underlying;show be P ψ (Sem.bind (match P.underlying t with|some i=>Pure.pure i|none=>Go.stuck "no such type") f);cases h:P.underlying t with
 |none=>trivial
 |some u=>exact g u h
def iZ:fu->Bool
 |.bool _|.int _ _|.string _|.pointer _=>true
 |_=>false
def nZ (P:un) (t:a00):Bool:=match P.underlying t with
 |some .bool|some (.int _)|some .string=>true
 |_=>false
def gC (P:un) (t:a00):Bool:=match P.underlying t with|some (.struct _)|some (.array _ _)=>true|_=>false
def uf (P:un) (t:a00):Nat:=((P.info? t).map (·.size)).getD 0
def zp (P:un):Nat->a00->List Nat
 |0,_=>[]
 |n+1,t=>match P.underlying t with
  |some (.struct fs)=>fs.toList.flatMap fun f=>if f.name= "_" then []else if gC P f.type=true then((zp P n f.type).filter fun o=>decide (o<uf P f.type)).map fun o=>f.offset+o else if nZ P f.type=true then [f.offset]else []
  |some (.array len e)=>(List.range' 0 len).flatMap λi=>if gC P e=true then((zp P n e).filter λo=>decide (o<uf P e)).map λo=>i*uf P e+o else if nZ P e=true then [i*uf P e]else []
  |_=>[]
def zq (xs:Array fu) (o:Nat):Prop:=∀c,xs[o]?=some c->iZ c=true
def oG (P:un) (n:Nat) (t:a00) (x y:fu):Prop:=
 (nZ P t=true->iZ x=true/\iZ y=true)/\(∀xs ys,x=.agg xs->y=.agg ys->∀o∈zp P n t,zq xs o/\zq ys o)/\(gC P t=true->(∃xs,x=.agg xs)/\∃ys,y=.agg ys)
def LF (P:un) (t:a00) (xs:Array fu) (off:Nat) (v:fu):Prop:=(gC P t=true->v=.agg (xs.extract off (off+uf P t)))/\(gC P t=false->xs[off]?=some v)
def be.sizeOf (t:a00):be P (λn=>n=uf P t) (Go.sizeOf t):=by
 unfold Go.sizeOf Go.typeInfo uf;show be P _ (Sem.bind (Sem.bind (.program .pure) fun q=>match q.info? t with|some i=>Pure.pure i|none=>Go.stuck "no such type") fun i=>Pure.pure i.size);show be P _ (Sem.bind (match P.info? t with|some i=>Pure.pure i|none=>Go.stuck "no such type") fun i=>Pure.pure i.size);cases h:P.info? t with
 |none=>trivial
 |some i=>exact rfl
def be.part (t:a00) (xs:Array fu) (off:Nat):be P (λv=>LF P t xs off v) (Go.part t xs off):=by
 unfold Go.part Go.isAgg;refine be.bind (φ:=λb=>b=gC P t) (λb hb=>?_) (be.cN λu hu=>?_)
 .subst hb;cases h:gC P t with
  |true=>
   simp only[zBV];refine be.bind (λn hn=>?_) (be.sizeOf t);subst hn;exact⟨λ_=>rfl,λh2=>by rw[h]at h2;cases h2⟩
  |false=>
   simp only[zAN,zBJ];cases hx:xs[off]? with
   |none=>trivial
   |some v=>exact⟨λh2=>(by rw[h]at h2;cases h2),λ_=>hx⟩
 .unfold gC;rw[hu];cases u<;>exact rfl
def pK {sz o:Nat} (ho:o<sz) (h:zq (xs.extract off (off+sz)) o):zq xs (off+o):=λc hc=>by
 refine h c ?_;rw[Array.getElem?_extract];have hs:off+o<xs.size:=(zAD.1 hc).1;rw[zAF (by omega)];exact hc
def fV (P:un) (n:Nat) (t:a00) (xs ys:Array fu) (off:Nat):Prop:=
 (nZ P t=true->zq xs off/\zq ys off)/\(gC P t=true->∀o∈zp P n t,o<uf P t->zq xs (off+o)/\zq ys (off+o))
def fV.of {u:fu} (hu:LF P t xs off u) (hv:LF P t ys off v) (h:oG P n t u v):fV P n t xs ys off:=by
 refine⟨λhl=>?_,λha o ho av=>?_⟩
 .have XL:gC P t=false:=by
   unfold nZ at hl;unfold gC;split at hl<;>simp_all
  have h1:=h.1 hl;exact⟨λc hc=>by rw[hu.2 XL]at hc;cases hc;exact h1.1,λc hc=>by rw[hv.2 XL]at hc;cases hc;exact h1.2⟩
 .have h1:=h.2.1 _ _ (hu.1 ha) (hv.1 ha) o ho;exact⟨pK av h1.1,pK av h1.2⟩
def kX:∀(d n:Nat) (t:a00) (x y:fu),be P (λb=>b=true->oG P n t x y) (Op.equalIn d t x y)
 |0,_,_,_,_=>trivial
 |d+1,n,t,x,y=>by
  simp only[Op.equalIn];refine be.cN λu hu=>?_
  have EG:gC P t=false->nZ P t=false->∀s:Sem Bool,be P (λb=>b=true->oG P n t x y) s:=λh1 h2 s=>
   be.mono (λb _ _=>⟨λh=>(by rw[h2]at h;cases h),λxs ys _ _ o ho=>(by
    cases n with
    |zero=>cases ho
    |succ n=>
     unfold gC at h1;rw[hu]at h1;simp only[zp,hu]at ho;cases u<;>first|cases ho|(cases h1)),λh=>(by rw[h1]at h;cases h)⟩) (be.all s)
  have GZ:iZ x=true->iZ y=true->gC P t=false->∀s:Sem Bool,be P (λb=>b=true->oG P n t x y) s:=λh1 h2 h3 s=>
   be.mono (λb _ _=>⟨λ_=>⟨h1,h2⟩,λxs ys e _ o ho=>(by subst e;cases h1),λh=>(by rw[h3]at h;cases h)⟩) (be.all s)
  cases u with
  |bool=>cases x<;>cases y<;>first|exact GZ rfl rfl (by simp[gC,hu]) _|trivial
  |string=>cases x<;>cases y<;>first|exact GZ rfl rfl (by simp[gC,hu]) _|trivial
  |int k=>
   cases x<;>first
    |trivial
    |(cases y<;>first|exact GZ rfl rfl (by simp[gC,hu]) _|trivial)
    |(rename_i o;cases o<;>cases y<;>first|exact GZ rfl rfl (by simp[gC,hu]) _|trivial)
  |struct fs=>
   cases x<;>first|trivial|(cases y<;>first|trivial|skip)
   rename_i xs ys;show be P _ (if P.stoodInHeld t=true then _ else _);split
   .trivial
   .refine be.bind (φ:=fun(r:Option Bool×Unit)=>(r.1=none->∀f∈fs.toList,f.name≠ "_" ->fV P (n-1) f.type xs ys f.offset)/\∀c,r.1=some c->c=false) (fun r hr=>?_) ?_
    .obtain⟨r1,r2⟩:=r;cases r1 with
     |some c=>exact λhc=>by have:=hr.2 c rfl;rw[this]at hc;cases hc
     |none=>
      refine λ_=>⟨λhl=>?_,λcW I5 e1 e2 o ho=>?_,λ_=>⟨⟨_,rfl⟩,_,rfl⟩⟩
      .simp[nZ,hu]at hl
      .cases e1;cases e2;cases n with
       |zero=>cases ho
       |succ n=>
        simp only[zp,hu]at ho;obtain⟨f,hf,ho⟩:=List.mem_flatMap.1 ho;by_cases hn:f.name= "_"
        .rw[zAF hn]at ho;cases ho
        .rw[zAG hn]at ho;have hp:=hr.1 rfl f hf hn;split at ho
         .rename_i ha;obtain⟨o',h1,rfl⟩:=zBO.1 ho;obtain⟨h1,h2⟩:=zCG.1 h1;exact hp.2 ha o' h1 (zEK h2)
         .split at ho
          .rename_i hl;rw[zCF]at ho;subst ho;exact hp.1 hl
          .cases ho
    .rw[<-Array.forIn_toList];refine be.forIn (fun l (r:Option Bool×Unit)=>r.1=none/\∃pre,fs.toList=pre++l/\∀f∈pre,f.name≠ "_" ->fV P (n-1) f.type xs ys f.offset) _ (fun r h=>?_) fs.toList (fun f m b hb=>?_) _ ⟨rfl,[],rfl,fun f h=>by cases h⟩
     .obtain⟨h0,pre,h1,h2⟩:=h;rw[zCP]at h1;exact⟨λ_=>by rw[h1];exact h2,λc hc=>by rw[h0]at hc;cases hc⟩
     .obtain⟨h0,pre,h1,h2⟩:=hb;have h3:fs.toList=(pre++[f])++m:=by rw[h1,zDK];rfl
      have step:(f.name≠ "_" ->fV P (n-1) f.type xs ys f.offset)->∀g∈pre++[f],g.name≠ "_" ->fV P (n-1) g.type xs ys g.offset:=fun h g hg hn=>by
       rcases zCH.1 hg with hg|hg
       .exact h2 g hg hn
       .rw[zCF]at hg;subst hg;exact h hn
      split
      .rename_i bC;refine be.bind (λu YL=>?_) (be.part f.type xs f.offset);refine be.bind (λv UF=>?_) (be.part f.type ys f.offset);refine be.bind (λc hc=>?_) (kX d (n-1) f.type u v);cases c with
       |false=>exact⟨λh=>(by cases h),λc h=>by cases h;rfl⟩
       |true=>exact⟨rfl,_,h3,step λ_=>fV.of YL UF (hc rfl)⟩
      .rename_i bC;exact⟨rfl,_,h3,step λh=>absurd h bC⟩
  |array len e=>
   cases x<;>first|trivial|(cases y<;>first|trivial|skip)
   rename_i xs ys;refine be.bind (λsz cr=>?_) (be.sizeOf e);subst cr;refine be.bind (φ:=λ(r:Option Bool×Unit)=>(r.1=none->∀i∈List.range' 0 len,fV P (n-1) e xs ys (i*uf P e))/\∀c,r.1=some c->c=false) (λr hr=>?_) ?_
   .obtain⟨r1,r2⟩:=r;cases r1 with
    |some c=>exact λhc=>by have:=hr.2 c rfl;rw[this]at hc;cases hc
    |none=>
     refine λ_=>⟨λhl=>?_,λcW I5 e1 e2 o ho=>?_,λ_=>⟨⟨_,rfl⟩,_,rfl⟩⟩
     .simp[nZ,hu]at hl
     .cases e1;cases e2;cases n with
      |zero=>cases ho
      |succ n=>
       simp only[zp,hu]at ho;obtain⟨i,hi,ho⟩:=zDF.1 ho;have hp:=hr.1 rfl i hi;split at ho
       .rename_i ha;obtain⟨o',h1,rfl⟩:=zBO.1 ho;obtain⟨h1,h2⟩:=zCG.1 h1;exact hp.2 ha o' h1 (zEK h2)
       .split at ho
        .rename_i hl;rw[zCF]at ho;subst ho;exact hp.1 hl
        .cases ho
   .simp only[Std.Legacy.Range.forIn_eq_forIn_range']
    have UG:∀l,l=List.range' 0 len->be P (λ(r:Option Bool×Unit)=>(r.1=none->∀i∈List.range' 0 len,fV P (n-1) e xs ys (i*uf P e))/\∀c,r.1=some c->c=false) (forIn l (none,()) λi r=>(Go.part e xs (i*uf P e))>>=λu=>(Go.part e ys (i*uf P e))>>=λv=>Op.equalIn d e u v>>=λc=>if(!c)=true then Pure.pure (ForInStep.done (some false,()))else Pure.pure (ForInStep.yield (none,()))):=λl hl=>by
     refine be.forIn (λl (r:Option Bool×Unit)=>r.1=none/\∃pre,List.range' 0 len=pre++l/\∀i∈pre,fV P (n-1) e xs ys (i*uf P e)) _ (λr h=>?_) l (λf m b hb=>?_) _ ⟨rfl,[],hl.symm,λf h=>by cases h⟩
     .obtain⟨h0,pre,h1,h2⟩:=h;rw[zCP]at h1;exact⟨λ_=>by rw[h1];exact h2,λc hc=>by rw[h0]at hc;cases hc⟩
     .obtain⟨h0,pre,h1,h2⟩:=hb;have h3:List.range' 0 len=(pre++[f])++m:=by rw[h1,zDK];rfl
      refine be.bind (λu YL=>?_) (be.part e xs _);refine be.bind (λv UF=>?_) (be.part e ys _);refine be.bind (λc hc=>?_) (kX d (n-1) e u v);cases c with
      |false=>exact⟨λh=>(by cases h),λc h=>by cases h;rfl⟩
      |true=>
       refine⟨rfl,_,h3,λg hg=>?_⟩;rcases zCH.1 hg with hg|hg
       .exact h2 g hg
       .rw[zCF]at hg;subst hg;exact fV.of YL UF (hc rfl)
    exact UG _ (by simp)
  |_=>exact EG (by simp[gC,hu]) (by simp[nZ,hu]) _
inductive EL (S:Nat->Bool) (p:Pi):List MapEntry->List MapEntry->Prop
 |nil:EL S p [] []
 |cons {e e':MapEntry} {l l':List MapEntry} (h:ER S p e e') (t:EL S p l l'):EL S p (e::l) (e'::l')
def EL.mono (h:Le p q) {l l':List MapEntry} (x:EL S p l l'):EL S q l l':=by
 induction x with
 |nil=>exact .nil
 |cons g _ ih=>exact .cons (g.mono h) ih
def EL.of:∀{l l':List MapEntry},l.length=l'.length->(∀(i:Nat) e e',l[i]?=some e->l'[i]?=some e'->ER S p e e')->EL S p l l'
 | [],[],_,_=>.nil
 | [],_::_,h,_=>by cases h
 |_::_,[],h,_=>by cases h
 |e::l,e'::l',h,g=>.cons (g 0 e e' rfl rfl) (EL.of (by simpa using h) λi a b h1 h2=>g (i+1) a b h1 h2)
def re {S:Nat->Bool} (hJ:S JK=false) (h:S JK=true):False:=by rw[hJ]at h;cases h
def sf (d:TypeDesc) {a a':fu} (ha:VR S p a a') (hb:VR S p b b'):Instr.sameNow d a b=Instr.sameNow d a' b':=by
 cases ha with
 |qX _ hj hv=>cases d<;>cases a'<;>first|(cases hv;done)|rfl
 |_=>
  cases hb with
  |qX _ hj hv=>cases d<;>cases b'<;>first|(cases hv;done)|rfl
  |_=>cases d<;>rfl
def zr {d:TypeDesc} {a:fu} {c:Bool} (h:Instr.sameNow d a b=some c):iZ a=true/\iZ b=true:=by
 cases d<;>cases a<;>first|(cases h;done)|(cases b<;>first|(cases h;done)|exact⟨rfl,rfl⟩)
def BB (d:TypeDesc) (hk:VR S p k k'):∀{l l':List MapEntry},EL S p l l'->∀i,
 (Instr.findNow d k l i=none/\Instr.findNow d k' l' i=none)\/(Instr.findNow d k l i=some none/\Instr.findNow d k' l' i=some none)\/
   ∃j v v',Instr.findNow d k l i=some (some (i+j,v))/\Instr.findNow d k' l' i=some (some (i+j,v'))/\VR S p v v'/\∃e,l[j]?=some e/\iZ k=true/\iZ e.key=true:=by
 intro l l' h;induction h with
 |nil=>intro i;exact .inr (.inl ⟨rfl,rfl⟩)
 | @cons e e' l l' he _ ih=>
   intro i;simp only[Instr.findNow];rw[sf d hk he.1];cases hs:Instr.sameNow d k' e'.key with
   |none=>exact .inl ⟨rfl,rfl⟩
   |some b=>
    have hl:=zr ((sf d hk he.1).trans hs);cases b with
    |true=>exact .inr (.inr ⟨0,_,_,rfl,rfl,he.2.1,e,rfl,hl.1,hl.2⟩)
    |false=>
     rcases ih (i+1)with h|h|⟨j,v,v',h1,h2,h3,e2,h4,h5,h6⟩
     .exact .inl h
     .exact .inr (.inl h)
     .refine .inr (.inr ⟨j+1,v,v',?_,?_,h3,e2,by simpa using h4,h5,h6⟩)
      .rw[show i+(j+1)=i+1+j by omega];exact h1
      .rw[show i+(j+1)=i+1+j by omega];exact h2
def FR (S:Nat->Bool) (p:Pi) (G:Nat->Prop):Option (Nat×fu)->Option (Nat×fu)->Prop
 |none,none=>True
 |some x,some y=>x.1=y.1/\VR S p x.2 y.2/\G x.1
 |_,_=>False
def SR.findAsking (hc:aS P) (ht:cX P n t=true) (G:Nat->Prop):∀{l l':List MapEntry} {p:Pi} {k k':fu} (i:Nat),(∀j e,l[j]?=some e->oG P 10 t k e.key->G (i+j))->VR S p k k'->EL S p l l'->
 SR P F S K N (λq a b=>FR S q G a b) (Instr.findAsking t k l i) (Instr.findAsking t k' l' i) p
 | [],_,p,k,k',i,hG,hk,h=>by cases h;exact SR.pure trivial
 |e::l,_,p,k,k',i,hG,hk,h=>by
  cases h with
  | @cons _ e' _ l' he hl=>
  simp only[Instr.findAsking];refine((SR.equal hc ht hk he.1).only (kX Op.maxDepth 10 t k e.key)).bind λq b b' hq hb=>?_;obtain⟨rfl,hb⟩:=hb;refine SR.ite (λhx=>SR.pure ⟨rfl,he.2.1.mono hq,hG 0 e rfl (hb hx)⟩) λ_=>SR.findAsking hc ht G (i+1) (λj e2 h1 h2=>?_) (hk.mono hq) (hl.mono hq);have:=hG (j+1) e2 (by simpa using h1) h2;rwa [show i+(j+1)=i+1+j by omega]at this
def SR.findKey (hc:aS P) (ht:cX P n t=true) {l l':List MapEntry} (hk:VR S p k k') (h:EL S p l l'):
 SR P F S K N (λq a b=>FR S q (λj=>∃e,l[j]?=some e/\oG P 10 t k e.key) a b) (Instr.findKey t k l) (Instr.findKey t k' l') p:=by
 unfold Instr.findKey;refine SR.cN λu hu=>?_;rcases BB u hk h 0 with⟨e1,e2⟩|⟨e1,e2⟩|⟨j,v,v',e1,e2,hv,e,he,h5,h6⟩
 .rw[e1,e2];refine SR.findAsking hc ht _ 0 (λj e he hg=>?_) hk h;exact⟨e,by rw[zDN];exact he,hg⟩
 .rw[e1,e2];exact SR.pure trivial
 .rw[e1,e2];refine SR.pure ⟨rfl,hv,e,by rw[show(0+j,v).1=j by simp];exact he,?_⟩
  exact⟨λ_=>⟨h5,h6⟩,λxs ys e _=>(by subst e;cases h5),λh=>by
   unfold gC at h;rw[hu]at h;cases u<;>first|(cases h;done)|(cases l<;>simp[Instr.findNow,Instr.sameNow]at e1)⟩
def SR.checkKey (b:Bool):∀(d n:Nat) (t:a00) {p:Pi} {k k':fu},cX P n t=true->VR S p k k'->SR P F S K N (QE Unit) (Instr.checkKey b d t k) (Instr.checkKey b d t k') p
 |0,_,_,_,_,_,_,_=>SR.unsupported
 |d+1,0,_,_,_,_,h,_=>by simp[cX]at h
 |d+1,n+1,t,p,k,k',ht,hk=>by
  simp only[Instr.checkKey];refine SR.cN λu hu=>?_;simp only[cX,hu]at ht;cases u with
  |array len e=>
   cases hk<;>first|exact SR.stuck|skip
   rename_i xs cW GY UB;have ax:AR S p xs cW:=⟨GY,UB⟩
   simp only;refine SR.aD (α:=PUnit) ?_ λq r hq=>SR.pure rfl;simp only[Std.Legacy.Range.forIn_eq_forIn_range'];refine SR.ue (p:=p) _ _ _ (λi hi b q2 cR=>?_) _ p (Le.refl _);refine(SR.sizeOf e).aD λq3 m ip=>?_;refine(SR.part e ((ax.mono cR).mono ip) _).bind λq4 v v' LE hv=>?_;exact(SR.checkKey _ d n e ht hv).aD λq5 _ XK=>SR.pure rfl
  |struct fs=>
   simp only[zAE]at ht
   have cg:∀f∈fs.toList,cX P n f.type=true:=λf hf=>by
    obtain⟨i,hi,he⟩:=zCQ hf;have:=zBQ.1 ht.2 i (by simpa using hi);rw[<-he];simpa using this
   cases hk<;>first|exact SR.stuck|skip
   rename_i xs cW GY UB;have ax:AR S p xs cW:=⟨GY,UB⟩
   simp only;refine SR.aD (α:=PUnit) ?_ λq r hq=>SR.pure rfl;rw[<-zEE,<-zEE];refine SR.ue (p:=p) _ _ _ (λf hf b q2 cR=>?_) _ p (Le.refl _);refine SR.ite (λ_=>?_) λ_=>SR.pure rfl;refine(SR.part f.type (ax.mono cR) _).bind λq4 v v' LE hv=>?_;exact(SR.checkKey _ d n f.type (cg f hf) hv).aD λq5 _ XK=>SR.pure rfl
  |bool=>cases hk<;>exact SR.pure rfl
  |int k=>cases hk<;>exact SR.pure rfl
  |string=>cases hk<;>exact SR.pure rfl
  |slice e=>cases hk<;>exact SR.pure rfl
  |_=>cases ht
end
section
variable {P:un} {F:Array Func} {S:Nat->Bool} {K:Kz} {N:Nat} {p:Pi}
def OR.mapList {es dk:Array MapEntry} (h:es.size=dk.size) (g:∀(i:Nat) (e e':MapEntry),es[i]?=some e->dk[i]?=some e'->ER S p e e'):EL S p es.toList dk.toList:=
 EL.of (by simpa using h) λi e e' h1 h2=>g i e e' (by simpa using h1) (by simpa using h2)
def xF (P:un) (t:a00):Bool:=match P.underlying t with|some (.map k _)=>cX P 10 k|_=>true
def gF (P:un) (t:a00):Bool:=match P.underlying t with|some (.map k _)=>nZ P k|_=>true
def pM (P:un) (t:a00):Nat:=match P.underlying t with|some (.map k _)=>uf P k|_=>0
def Jc (P:un) (t:a00):Bool:=match P.underlying t with|some (.map k _)=>gC P k&&(List.range (uf P k)).all λo=>(zp P 10 k).contains o|_=>true
def ug (n:Nat) (v:fu):Prop:=∀xs,v=.agg xs->xs.size=n
def G5 (v:fu):Prop:=iZ v=true\/∃xs,v=.agg xs/\∀c∈xs.toList,iZ c=true
def SR.lookup (hz:bz P) (hc:aS P) (t:a00) (ht:xF P t=true) (ok:Bool) (hx:VR S p x x') (hi:VR S p i i'):SR P F S K N (QV S) (Instr.lookup t x i ok) (Instr.lookup t x' i' ok) p:=by
 unfold Instr.lookup;refine SR.cN λu hu=>?_;cases u with
 |map k e=>
  simp only[xF,hu]at ht;simp only
  have rest:∀(q:Pi) (es dk:Array MapEntry),Le p q->es.size=dk.size->EL S q es.toList dk.toList->SR P F S K N (QV S)
   (Instr.checkKey es.isEmpty 10000 k i>>=λ_=>Instr.findKey k i es.toList>>=λr=>match r with|some (_,v)=>(Pure.pure (v,true)>>=λ(x:fu×Bool)=>Pure.pure (if ok=true then Value.tuple #[x.1,.bool x.2]else x.1))|none=>Go.zeroValue e>>=λz=>(Pure.pure (z,false)>>=λ(x:fu×Bool)=>Pure.pure (if ok=true then Value.tuple #[x.1,.bool x.2]else x.1)))
   (Instr.checkKey dk.isEmpty 10000 k i'>>=λ_=>Instr.findKey k i' dk.toList>>=λr=>match r with|some (_,v)=>(Pure.pure (v,true)>>=λ(x:fu×Bool)=>Pure.pure (if ok=true then Value.tuple #[x.1,.bool x.2]else x.1))|none=>Go.zeroValue e>>=λz=>(Pure.pure (z,false)>>=λ(x:fu×Bool)=>Pure.pure (if ok=true then Value.tuple #[x.1,.bool x.2]else x.1))) q:=by
   intro q es dk hq hs hl;have hem:es.isEmpty=dk.isEmpty:=by simp[Array.isEmpty,hs]
   have fin:∀(q:Pi) (a b:fu) (c:Bool),VR S q a b->SR P F S K N (QV S) (Pure.pure (if ok=true then Value.tuple #[a,.bool c]else a)) (Pure.pure (if ok=true then Value.tuple #[b,.bool c]else b)) q:=by
    intro q a b c h;cases ok with
    |true=>exact SR.pure (AR.tuple ((AR.one h).push (.bool _)))
    |false=>exact SR.pure h
   rw[hem];refine(SR.checkKey _ 10000 10 k ht (hi.mono hq)).aD λq1 _ uh=>?_;refine(SR.findKey hc ht ((hi.mono hq).mono uh) (hl.mono uh)).bind λq2 r r' cR hr=>?_;cases r<;>cases r'<;>first|exact hr.elim|skip
   .exact(SR.zeroValue hz e).bind λq4 z z' LE Ek=>fin q4 _ _ _ (Ek.1▸Ek.2)
   .exact fin q2 _ _ _ hr.2.1
  cases hx<;>first|exact SR.stuck|skip
  .exact rest p #[] #[] (Le.refl _) rfl .nil
  .rename_i r r' h;refine(SR.getObj h).bind λq o o' hq ho=>?_;cases ho with
   |map c h g=>exact rest q _ _ hq h (OR.mapList h g)
   |_=>exact SR.stuck
 |_=>exact SR.stuck
def Bi (l:Bool) (x y:Bool):Prop:=(x=true->y=true)/\(l=false->y=true->x=true)
def Bi.refl {l x:Bool}:Bi l x x:=⟨id,λ_=>id⟩
def Bi.and {l x y x' y':Bool} (h:Bi l x y) (k:Bi l x' y'):Bi l (x&&x') (y&&y'):=by
 simp only[Bi,zAE];exact⟨λa=>⟨h.1 a.1,k.1 a.2⟩,λe a=>⟨h.2 e a.1,k.2 e a.2⟩⟩
def kY (hJ:S JK=false) (hp:pC P p):∀(n:Nat) {a a' b b':fu},VR S p a a'->VR S p b b'->Bi p.l (Instr.sameBits n a b) (Instr.sameBits n a' b')
 |n,a,a',b,b',ha,hb=>by
  have Ja:∀{r r' s s':Nat} (o o2:Nat) (sp ra:Option Nat),p r r'->p s s'->Bi p.l ((some (⟨r,o,sp⟩:Addr))==(some (⟨s,o2,ra⟩:Addr))) ((some (⟨r',o,sp⟩:Addr))==(some (⟨s',o2,ra⟩:Addr))):=by
   intro r r' s s' o o2 sp ra h1 h2;refine⟨λhe=>?_,λhl=>?_⟩
   .have he:=eq_of_beq he;simp only[zAA,Addr.mk.injEq]at he;obtain⟨rfl,rfl,rfl⟩:=he;rw[hp.one _ _ _ h1 h2];exact beq_self_eq_true _
   .have:=hp.two hl _ _ _ _ h1 h2;simp[this]
  cases n with
  |zero=>
   cases ha<;>first|exact Bi.refl|exact(re hJ ‹_›).elim|(cases hb<;>first|exact Bi.refl|exact Ja _ _ _ _ ‹_› ‹_›|exact(re hJ ‹_›).elim)
  |succ n=>
   cases ha with
   |iface h=>cases hb<;>first|exact Bi.refl|exact(re hJ ‹_›).elim|(simp only[Instr.sameBits];exact Bi.and Bi.refl (kY hJ hp n h ‹_›))
   |agg h g=>
    cases hb with
    |agg h2 g2=>
     rename_i xs cW ys I5;simp only[Instr.sameBits];rw[h,h2];refine Bi.and Bi.refl ?_
     have hl:∀(l l' m m':List fu),l.length=l'.length->m.length=m'.length->(∀(i:Nat) v v',l[i]?=some v->l'[i]?=some v'->VR S p v v')->(∀(i:Nat) v v',m[i]?=some v->m'[i]?=some v'->VR S p v v')->
      Bi p.l ((l.zip m).all λ(x,y)=>Instr.sameBits n x y) ((l'.zip m').all λ(x,y)=>Instr.sameBits n x y):=by
      intro l;induction l with
      |nil=>intro l' m m' h1 h2 _ _;cases l' with
       |nil=>exact Bi.refl
       |cons=>cases h1
      |cons x l ih=>
       intro l' m m' h1 h2 g1 g2;cases l' with
       |nil=>cases h1
       |cons x' l'=>
        cases m with
        |nil=>cases m' with
         |nil=>exact Bi.refl
         |cons=>cases h2
        |cons y m=>cases m' with
         |nil=>cases h2
         |cons y' m'=>
          simp only[List.zip_cons_cons,List.all_cons];exact Bi.and (kY hJ hp n (g1 0 x x' rfl rfl) (g2 0 y y' rfl rfl)) (ih l' m m' (by simpa using h1) (by simpa using h2) (λi v v' a b=>g1 (i+1) v v' a b) (λi v v' a b=>g2 (i+1) v v' a b))
     exact hl _ _ _ _ (by simpa using h) (by simpa using h2) (λi v v' a b=>g i v v' (by simpa using a) (by simpa using b)) (λi v v' a b=>g2 i v v' (by simpa using a) (by simpa using b))
    |qX _ hj _=>exact(re hJ hj).elim
    |_=>exact Bi.refl
   |qX _ hj _=>exact(re hJ hj).elim
   |_=>cases hb<;>first|exact Bi.refl|exact Ja _ _ _ _ ‹_› ‹_›|exact(re hJ ‹_›).elim
def ob (hl:p.l=false) (hp:pC P p):∀(n:Nat) {a a' b b':fu},iZ a=true->iZ b=true->VR S p a a'->VR S p b b'->Instr.sameBits n a b=Instr.sameBits n a' b':=λn a a' b b' la lb ha hb=>by
 have Ja:∀{r r' s s':Nat} (o o2:Nat) (sp ra:Option Nat),p r r'->p s s'->((some (⟨r,o,sp⟩:Addr))==(some (⟨s,o2,ra⟩:Addr)))=((some (⟨r',o,sp⟩:Addr))==(some (⟨s',o2,ra⟩:Addr))):=by
  intro r r' s s' o o2 sp ra h1 h2;have:=hp.two hl _ _ _ _ h1 h2;rw[zEF];simp[this]
 cases ha<;>first|(cases la;done)|skip
 all_goals cases hb<;>first|(cases lb;done)|skip
 all_goals cases n<;>first|rfl|exact Ja _ _ _ _ ‹_› ‹_›
def ui (hl:p.l=false) (hp:pC P p) {a a':fu} (la:G5 a) (lb:G5 b) (ha:VR S p a a') (hb:VR S p b b'):Instr.sameBits (n+1) a b=Instr.sameBits (n+1) a' b':=by
 rcases la with la|⟨xs,rfl,hx⟩
 .rcases lb with lb|⟨ys,rfl,hy⟩
  .exact ob hl hp _ la lb ha hb
  .cases ha<;>first|(cases la;done)|(cases hb;rfl)
 .rcases lb with lb|⟨ys,rfl,hy⟩
  .cases ha with
   |agg h g=>cases hb<;>first|(cases lb;done)|rfl
  .cases ha with
   | @agg _ cW h g=>
     cases hb with
     | @agg _ I5 h2 g2=>
       simp only[Instr.sameBits];rw[h,h2];congr 1
       have key:∀(l l' m m':List fu),l.length=l'.length->m.length=m'.length->(∀c∈l,iZ c=true)->(∀c∈m,iZ c=true)->(∀(i:Nat) v v',l[i]?=some v->l'[i]?=some v'->VR S p v v')->(∀(i:Nat) v v',m[i]?=some v->m'[i]?=some v'->VR S p v v')->
        ((l.zip m).all λ(x,y)=>Instr.sameBits n x y)=((l'.zip m').all λ(x,y)=>Instr.sameBits n x y):=by
        intro l;induction l with
        |nil=>intro l' m m' h1 h2 _ _ _ _;cases l' with
         |nil=>rfl
         |cons=>cases h1
        |cons x l ih=>
         intro l' m m' h1 h2 lx lm g1 g2;cases l' with
         |nil=>cases h1
         |cons x' l'=>
          cases m with
          |nil=>cases m' with
           |nil=>rfl
           |cons=>cases h2
          |cons y m=>cases m' with
           |nil=>cases h2
           |cons y' m'=>
            simp only[List.zip_cons_cons,List.all_cons];rw[ob hl hp n (lx x zBL) (lm y zBL) (g1 0 x x' rfl rfl) (g2 0 y y' rfl rfl),ih l' m m' (by simpa using h1) (by simpa using h2) (λc hc=>lx c (zAR _ hc)) (λc hc=>lm c (zAR _ hc)) (λi v v' a b=>g1 (i+1) v v' a b) (λi v v' a b=>g2 (i+1) v v' a b)]
       exact key _ _ _ _ (by simpa using h) (by simpa using h2) hx hy (λi v v' a b=>g i v v' (by simpa using a) (by simpa using b)) (λi v v' a b=>g2 i v v' (by simpa using a) (by simpa using b))
def G6 (a b:fu):Prop:=(G5 a/\G5 b)\/∃xs ys,a=.agg xs/\b=.agg ys/\xs.size≠ys.size
def SR.keyThatStays (OS:p.l=true->S JK=false) {a a':fu} (hJ:S JK=true->G6 a b) (ha:VR S p a a') (hb:VR S p b b'):SR P F S K N (QV S) (Instr.keyThatStays a b) (Instr.keyThatStays a' b') p:=by
 intro hp;unfold Instr.keyThatStays
 have e:Bi p.l (Instr.sameBits 10000 a b) (Instr.sameBits 10000 a' b'):=by
  cases hs:S JK with
  |false=>exact kY hs hp 10000 ha hb
  |true=>
   have hl:p.l=false:=by cases hl:p.l with|false=>rfl|true=>rw[OS hl]at hs;cases hs
   rcases hJ hs with⟨h1,h2⟩|⟨xs,ys,rfl,rfl,bC⟩
   .rw[ui (n:=9999) hl hp h1 h2 ha hb];exact Bi.refl
   .cases ha with
    |agg h g=>
     cases hb with
     |agg h2 g2=>
      simp only[Instr.sameBits];rw[<-h,<-h2];have:(xs.size==ys.size)=false:=by simpa using bC
      rw[this];exact Bi.refl
 cases hx:Instr.sameBits 10000 a b with
 |true=>rw[e.1 hx];exact hb
 |false=>
  cases hl:p.l with
  |true=>exact .inl hl
  |false=>
   have hy:Instr.sameBits 10000 a' b'=false:=by
    cases hy:Instr.sameBits 10000 a' b' with
    |false=>rfl
    |true=>rw[e.2 hl hy]at hx;cases hx
   rw[hy];refine(SR.choose (P:=P) (F:=F) (S:=S) (K:=K) (N:=N) _).aD (λq n hq=>?_) hp;split
   .exact SR.pure (hb.mono hq)
   .exact SR.pure (ha.mono hq)
def EH {k:a00} {e:a00} (hu:P.underlying t=some (.map k e)) (hJ:gF P t=true\/Jc P t=true) {a:fu} (h:oG P 10 k b a) (cr:gF P t=false->ug (pM P t) b):G6 a b:=by
 cases hl:gF P t with
 |true=>
  have te:=hl;simp only[gF,hu]at te;exact .inl ⟨.inl (h.1 te).2,.inl (h.1 te).1⟩
 |false=>
  have hs:Jc P t=true:=hJ.resolve_left (by rw[hl];exact λh=>by cases h);simp only[Jc,hu,zAE]at hs;obtain⟨⟨xs,rfl⟩,ys,rfl⟩:=h.2.2 hs.1;have hn:=cr hl xs rfl;simp only[pM,hu]at hn;by_cases e:ys.size=xs.size
  .have key:∀(zs:Array fu),zs.size=uf P k->(∀o∈zp P 10 k,zq zs o)->∀c∈zs.toList,iZ c=true:=λzs hz cg c hc=>by
    obtain⟨i,hi⟩:=List.getElem?_of_mem hc;have LG:zs[i]?=some c:=by simpa using hi
    have av:=(zAD.1 LG).1;have hm:=zCD.1 hs.2 i (zDI.2 (by omega));exact cg i (by simpa using hm) c LG
   exact .inl ⟨.inr ⟨ys,rfl,key ys (by omega) λo ho=>(h.2.1 xs ys rfl rfl o ho).2⟩,.inr ⟨xs,rfl,key xs hn λo ho=>(h.2.1 xs ys rfl rfl o ho).1⟩⟩
  .exact .inr ⟨ys,xs,rfl,rfl,e⟩
def SR.mapUpdate (OS:p.l=true->S JK=false) (hc:aS P) (t:a00) (hJ:S JK=true->gF P t=true\/Jc P t=true) (ht:xF P t=true) {m m':fu} (cr:S JK=true->gF P t=false->ug (pM P t) k) (hm:VR S p m m') (hk:VR S p k k') (hv:VR S p v v'):SR P F S K N (QE Unit) (Instr.mapUpdate t m k v) (Instr.mapUpdate t m' k' v') p:=by
 unfold Instr.mapUpdate;refine SR.cN λu hu=>?_;cases u with
 |map kt e=>
  simp only[xF,hu]at ht;simp only;cases hm<;>first|exact SR.stuck|exact SR.LC _|skip
  rename_i r r' h;simp only;refine(SR.getObj h).bind λq o o' hq ho=>?_;cases ho with
  | @map es dk c hs g=>
    simp only;refine(SR.checkKey _ 10000 10 kt ht (hk.mono hq)).aD λq1 _ uh=>?_;have hl:EL S q1 es.toList dk.toList:=(OR.mapList hs g).mono uh;refine(SR.findKey hc ht ((hk.mono hq).mono uh) hl).bind λq2 x x' cR hx=>?_;have h:=cR _ _ (uh _ _ (hq _ _ h));have hk:=((hk.mono hq).mono uh).mono cR;have hv:=((hv.mono hq).mono uh).mono cR;have g2:∀(i:Nat) (e e':MapEntry),es[i]?=some e->dk[i]?=some e'->ER S q2 e e':=λi e e' a b=>((g i e e' a b).mono uh).mono cR;cases x<;>cases x'<;>first|exact hx.elim|skip
    .refine SR.setObj h (.map (c+1) (by simp[hs]) λi a b ha hb=>?_) λ_ _ _ _ _ _ _ a=>by cases a
     rw[zBS]at ha hb;rw[hs]at ha;split at ha
     .rename_i hi;simp only[hi,zBV,zAA]at ha hb;subst ha;subst hb;exact⟨hk,hv,rfl⟩
     .rename_i hi;simp only[hi,zBJ]at hb;exact g2 i a b ha hb
    .rename_i y y';obtain⟨j,u⟩:=y;obtain⟨j',u'⟩:=y';obtain⟨hj,YL,hlf⟩:=hx;simp only at hj YL hlf;subst hj;simp only;refine SR.bind (Q:=QV S) (SR.keyThatStays (λx=>OS (((hq.trans uh).trans cR).l.symm.trans x)) (λh=>?_) ?_ hk) λq3 b b' ip hb=>?_
     .obtain⟨e1,EI,hlk⟩:=hlf;have he:es[j]?=some e1:=by simpa using EI
      rw[he];exact EH hu (hJ h) hlk (cr h)
     .cases he:es[j]? with
      |none=>
       have:dk[j]?=none:=by rw[Array.getElem?_eq_none_iff]at he⊢;omega
       rw[this];exact hk
      |some e1=>
       have av:j<dk.size:=by rw[<-hs];exact(zAD.1 he).1
       rw[zAI av];exact(g2 j e1 _ he (zAI av)).1
     .refine SR.setObj (ip _ _ h) (.map c (by simp[hs]) λi a b ha hb=>?_) λ_ _ _ _ _ _ _ a=>by cases a
      rw[zDD]at ha hb;split at ha
      .rename_i hi;simp only[hi,zBV]at hb;cases hea:es[i]? with
       |none=>rw[hea]at ha;cases ha
       |some ea=>
        have av:i<dk.size:=by rw[<-hs];exact(zAD.1 hea).1
        rw[hea]at ha;rw[zAI av]at hb;simp only[zBA,zAA]at ha hb;subst ha;subst hb;exact⟨by assumption,hv.mono ip,(g2 i ea _ hea (zAI av)).2.2⟩
      .rename_i hi;simp only[hi,zBJ]at hb;exact(g2 i a b ha hb).mono ip
  |_=>exact SR.stuck
 |_=>exact SR.stuck
def SR.makeMap (t:a00):SR P F S K N (QV S) (Instr.makeMap t none) (Instr.makeMap t none) p:=by
 refine SR.bind (Q:=λq r r'=>q r r'/\N<=r/\∀k,¬q.x r k) (SR.newObj (.map 0 rfl λi e e' h=>by simp at h) λ_ _ _ _ _ _ _ a=>by cases a) λq r r' hq hr=>SR.pure (.map hr.1)
def BC (e:a00) (n m:Int) (bytes:Nat):Sem fu:=
 Go.askRoom ((IntKind.i64.wrap m).toNat*bytes)>>=λ_=>Go.sizeOf e>>=λs=>
  if(IntKind.i64.wrap m).toNat*s=0 then(Go.newRow e ((Array.range ((IntKind.i64.wrap m).toNat*s)).map ((#[]:Array fu)[·%(#[]:Array fu).size]!))>>=λa=>Pure.pure (Value.slice (some a) (IntKind.i64.wrap n).toNat (IntKind.i64.wrap m).toNat))
  else Go.zeroValue e>>=λz=>(Go.newRow e ((Array.range ((IntKind.i64.wrap m).toNat*s)).map (z.cells[·%z.cells.size]!))>>=λa=>Pure.pure (Value.slice (some a) (IntKind.i64.wrap n).toNat (IntKind.i64.wrap m).toNat))
def SR.makeSlice (hz:bz P) (t:a00) {l l' c c':fu} (hl:VR S p l l') (kv:VR S p c c'):SR P F S K N (QV S) (Instr.makeSlice t l c) (Instr.makeSlice t l' c') p:=by
 unfold Instr.makeSlice;refine SR.cN λu hu=>?_;cases u with
 |slice e=>
  simp only;refine(SR.asInt hl).aD λq n hq=>?_;refine(SR.asInt (kv.mono hq)).aD λq2 m cR=>?_;refine SR.pG λi hi=>?_
  have rest:∀(q:Pi),SR P F S K N (QV S)
   (BC e n m i.bytes)
   (BC e n m i.bytes) q:=by
   intro q;unfold BC;refine(SR.askRoom _).aD λq1 _ uh=>(SR.sizeOf e).aD λq2 s cR=>?_;refine SR.ite (λ_=>?_) λ_=>?_
   .exact(SR.newRow e (tG AR.empty _)).bind λq4 a a' LE ha=>SR.pure (ha.1.sl (λ_=>ha.2.2) _ _)
   .refine(SR.zeroValue hz e).bind λq3 z z' ip Ek=>?_;obtain⟨rfl,hv⟩:=Ek;exact(SR.newRow e (tG hv.cells _)).bind λq4 a a' LE ha=>SR.pure (ha.1.sl (λ_=>ha.2.2) _ _)
  have pan:∀(msg:String) (q:Pi),SR P F S K N (QV S) (Go.runtimePanic (.error msg)>>=λ(_:PUnit)=>BC e n m i.bytes) (Go.runtimePanic (.error msg)>>=λ(_:PUnit)=>BC e n m i.bytes) q:=
   λmsg q=>SR.bind (Q:=QE PUnit) (SR.err msg) λq _ _ _ _=>rest q
  refine SR.ite (λ_=>?_) λ_=>rest q2;refine SR.ite (λ_=>pan _ q2) λ_=>SR.ite (λ_=>pan _ q2) λ_=>?_;exact(SR.choose _).aD λq3 c ip=>pan _ q3
 |_=>exact SR.stuck
def SR.extract (h:VR S p v v') (i:Nat):SR P F S K N (QV S) (Instr.extract v i) (Instr.extract v' i) p:=by
 unfold Instr.extract;cases h<;>first|exact SR.stuck|skip
 rename_i xs cW hx gx;simp only;cases hi:xs[i]? with
 |none=>exact SR.stuck
 |some u=>obtain⟨u',hu',hr⟩:=AR.get (S:=S) (p:=p) ⟨hx,gx⟩ hi;rw[hu'];exact SR.pure hr
def SR.indexAt (t:a00) (h:VR S p v v') (hi:VR S p i i'):SR P F S K N (QV S) (Instr.indexAt t v i) (Instr.indexAt t v' i') p:=by
 unfold Instr.indexAt;refine(SR.asIntOf hi).aD λq ki hq=>?_;obtain⟨k,n⟩:=ki;have h:=h.mono hq;refine SR.cN λu hu=>?_;simp only
 have rest:∀(q:Pi) (b b':Option Addr) (len:Nat) (e:a00),((b=none/\b'=none)\/(∃a a',b=some a/\b'=some a'/\iY q a a')\/∃a a',b=some a/\b'=some a'/\len=0)->∀UH:Bool,SR P F S K N (QV S)
  (match b with
    |some a=>if 0<=n/\n<(len:Int)then(Go.sizeOf e>>=fun s=>Pure.pure (Value.pointer (some (a.add (n.toNat*s)))))else if UH=true then Go.unsupported (.noEntry "op/indexAddr.an index out of range at an array of length 0 or 1 (ledger 616)")else Go.boundsPanic k n (len:Int) .index
    |none=>Go.boundsPanic k n 0 .index)
  (match b' with
    |some a=>if 0<=n/\n<(len:Int)then(Go.sizeOf e>>=fun s=>Pure.pure (Value.pointer (some (a.add (n.toNat*s)))))else if UH=true then Go.unsupported (.noEntry "op/indexAddr.an index out of range at an array of length 0 or 1 (ledger 616)")else Go.boundsPanic k n (len:Int) .index
    |none=>Go.boundsPanic k n 0 .index) q:=by
  intro q b b' len e hb UH;rcases hb with⟨rfl,rfl⟩|⟨a,a',rfl,rfl,ha⟩|⟨a,a',rfl,rfl,rfl⟩
  .exact SR.boundsPanic _ _ _ _
  .refine SR.ite (λ_=>?_) λ_=>SR.ite (λ_=>SR.unsupported) λ_=>SR.boundsPanic _ _ _ _;exact(SR.sizeOf e).aD λq s hq=>SR.pure (ha.mono hq|>.add _).ptr
  .refine SR.ite (λh=>absurd h.2 (by simp only[Int.natCast_zero];omega)) λ_=>SR.ite (λ_=>SR.unsupported) λ_=>SR.boundsPanic _ _ _ _
 cases u with
 |array len e=>
  refine(SR.sureAddr h).bind λq2 a a' cR ha=>?_;refine SR.cN λu hu=>?_;exact rest q2 _ _ len e (.inr (.inl ⟨a,a',rfl,rfl,ha⟩)) _
 |slice e=>
  cases v with
  |slice b len cap=>
   cases v' with
   |slice b' zdl j0=>
    obtain⟨rfl,hs⟩:=mB h;refine SR.cN λu hu=>?_;exact rest q _ _ len e (hs.imp (λh=>⟨h.1,h.2.1⟩) λh=>h.imp (λ⟨b,b',h1,h2,h3,_⟩=>⟨b,b',h1,h2,h3⟩) λ⟨h0,_,b,b',h1,h2,_⟩=>⟨b,b',h1,h2,h0⟩) _
   |_=>cases h
  |_=>cases h<;>exact SR.stuck
 |_=>exact SR.stuck
end
section
variable {P:un} {F:Array Func} {S:Nat->Bool} {K:Kz} {N:Nat} {p:Pi}
def SR.lenOf (h:VR S p x x'):SR P F S K N (λ_ a b=>a=b/\∀b l c,x=.slice b l c->a=l) (Builtin.lenOf x) (Builtin.lenOf x') p:=by
 cases h<;>first|exact SR.pure ⟨rfl,λb l c e=>by cases e<;>rfl⟩|exact SR.stuck
def SR.firstCells (s n:Nat) (h:VR S p x x') (hn:∀b c,x=.slice b 0 c->n=0):SR P F S K N (QA S) (Builtin.firstCells s n x) (Builtin.firstCells s n x') p:=by
 cases h<;>first|exact SR.stuck|skip
 .rename_i s1;exact SR.pure (AR.map _ _ _ λx _=>.int _ _)
 .exact SR.pure AR.empty
 .rename_i r r' o sp l c g hX;exact SR.loadCells (a:=⟨r,o,sp⟩) (a':=⟨r',o,sp⟩) ⟨g,rfl,rfl⟩ _
 .rename_i r r' k o l c hl g h0 hx;exact SR.loadCells (a:=⟨r,o,none⟩) (a':=⟨r',o,none⟩) ⟨g,rfl,rfl⟩ _
 all_goals
  obtain rfl:=hn _ _ rfl;simp only[Builtin.firstCells,zGG];exact SR.pure AR.empty
def SR.sg (s:Nat) (h:VR S p x x'):SR P F S K N (λ_ a b=>a=#[]/\b=#[]) (Builtin.firstCells s 0 x) (Builtin.firstCells s 0 x') p:=by
 have hl:∀b:Addr,Go.loadCells b (0*s)=Pure.pure #[]:=λb=>by rw[zGG];rfl
 cases h<;>first|exact SR.stuck|exact SR.pure ⟨rfl,rfl⟩|(simp only[Builtin.firstCells,hl];exact SR.pure ⟨rfl,rfl⟩)|exact SR.pure ⟨by simp,by simp⟩
def od (h:AR S p z z') (n:Nat):AR S p (Builtin.zeroCells z n) (Builtin.zeroCells z' n):=by
 unfold Builtin.zeroCells;rw[<-h.1];have:=tG h (n*z.size);rw[<-h.1]at this;exact this
def lO (a:Addr) (n:Nat) (w:nq) (es:Array Event):∃b,(Builtin.holdsCells a n).runT P w es=(.ok b w,es):=by
 unfold Builtin.holdsCells;show∃b,(Sem.shape a.block λs=>_).runT P w es=_;simp only[Sem.runT];cases w.shape? a.block with
 |none=>exact⟨_,rfl⟩
 |some x=>exact⟨_,rfl⟩
def kZ (P:un) (f:α->Sem β) {a:α} {w1:nq} {es1:Array Event}:∀(s:Sem α) (w:nq) (es:Array Event),s.runT P w es=(.ok a w1,es1)->(s.bind f).runT P w es=(f a).runT P w1 es1:=by
 intro s;induction s with
 |pure x=>intro w es e;simp only[Sem.runT,zAH,Result.ok.injEq]at e;obtain⟨⟨rfl,rfl⟩,rfl⟩:=e;rfl
 |load m a k ih=>
  intro w es e;simp only[Sem.bind,Sem.runT]at e⊢;cases hc:w.cell? a with
  |some v=>rw[hc]at e;exact ih v _ _ e
  |none=>
   rw[hc]at e;simp only at e⊢;cases hf:w.farLoad P a (m== .atomic)with
   |ok x=>rw[hf]at e;exact ih _ _ _ e
   |error x=>rw[hf]at e;cases e
 |store m a v k ih=>
  intro w es e;cases hv:dY v with
  |false=>obtain⟨x,hx,_⟩:=jZ P m a v k w es hv;rw[hx]at e;cases e
  |true=>
   rw[cY P m a v k w es hv]at e;show(Sem.store m a v (k.bind f)).runT P w es=_;rw[cY P m a v _ w es hv];cases hc:w.cell? a with
   |some u=>
    rw[hc]at e;simp only at e⊢;by_cases hz:w.frozen? a=true
    .simp only[hz,zBV]at e;cases e
    .simp only[hz,zAN,zBJ]at e⊢;exact ih _ _ e
   |none=>
    rw[hc]at e;simp only at e⊢;cases hf:w.farStore P a v (m== .atomic)with
    |ok x=>rw[hf]at e;exact ih _ _ e
    |error x=>rw[hf]at e;cases e
 |new o k ih=>intro w es e;exact ih _ _ _ e
 |shape r k ih=>intro w es e;exact ih _ _ _ e
 |freeze a n k ih=>intro w es e;exact ih _ _ e
 |frozen a k ih=>intro w es e;exact ih _ _ _ e
 |getObj r k ih=>
  intro w es e;simp only[Sem.bind,Sem.runT]at e⊢;cases ho:w.heap[r]? with
  |none=>rw[ho]at e;cases e
  |some o=>rw[ho]at e;cases o<;>first|exact ih _ _ _ e|(cases e;done)
 |setObj r o k ih=>
  intro w es e;simp only[Sem.bind,Sem.runT]at e⊢;cases ho:w.heap[r]? with
  |none=>rw[ho]at e;cases e
  |some o'=>rw[ho]at e;cases o'<;>first|exact ih _ _ e|(cases e;done)
 |choose q k ih=>
  intro w es e;simp only[Sem.bind,Sem.runT]at e⊢;split at e
  .rename_i hq;simp only[hq,zBV];exact ih _ _ _ e
  .rename_i hq;simp only[hq,zBJ,zAN];exact ih _ _ _ e
 |sys c k ih=>intro w es e;exact ih _ _ _ e
 |program k ih=>intro w es e;exact ih _ _ _ e
 |mark m k ih=>intro w es e;exact ih _ _ e
 |halt x=>intro w es e;cases e
def wJ (s l n:Nat) (b:Option Addr) (x:fu) (w:nq) (es:Array Event):∃c,(Builtin.mayShare s l n b x).runT P w es=(.ok c w,es):=by
 have tail:∀t:Bool,∃c,(if(!t)=true then(Pure.pure true:Sem Bool)else match x with
  |.slice (some b') _ _=>Builtin.holdsCells b' (n*s)>>=λh=>Pure.pure (!h||b.any (·.block==b'.block))
  |_=>Pure.pure false).runT P w es=(.ok c w,es):=by
  intro t;split
  .exact⟨_,rfl⟩
  .split
   .rename_i b' _ _;obtain⟨h,hh⟩:=lO (P:=P) b' (n*s) w es;exact⟨_,(kZ P _ _ w es hh)⟩
   .exact⟨_,rfl⟩
 unfold Builtin.mayShare;cases b with
 |none=>exact tail true
 |some a=>
  obtain⟨h,hh⟩:=lO (P:=P) a (l*s) w es;obtain⟨c,hc⟩:=tail (h&&!w.frozen? (a.add (l/2*s)));refine⟨c,?_⟩;show((Builtin.holdsCells a (l*s)).bind _).runT P w es=_;rw[kZ P _ _ w es hh];exact hc
def BD (s l n:Nat) (b:Option Addr) (x:fu) (u:Unsupported) (hu:∀g,u≠ .initOrder g) (k:PUnit->Sem β):
 aE P (Builtin.mayShare s l n b x>>=λc=>if(!c)=true then Go.mark .noRoom>>=λ_=>Go.unsupported u>>=k else Go.unsupported u>>=k):=by
 intro w es;obtain⟨c,hc⟩:=wJ (P:=P) s l n b x w es;have hd:dead (.unsupported u):=by cases u<;>first|trivial|exact absurd rfl (hu _)
 show∃h w1 es1,((Builtin.mayShare s l n b x).bind _).runT P w es=_/\_;rw[kZ P _ _ w es hc];cases c with
 |true=>exact⟨_,w,es,rfl,hd⟩
 |false=>exact⟨_,w,es.push ⟨.mark .noRoom,false,true⟩,rfl,hd⟩
def xG (P:un) (ts:Array a00):Bool:=match ts[1]? with|some t=>(match P.underlying t with|some (.int _)=>false|_=>true)|none=>true
def fN (e:a00) (b:Option Addr) (sl sc n size:Nat) (x:fu):Sem fu:=
 Go.choose (.appendCap (sl+n) sc e)>>=λEJ=>Go.typeInfo e>>=λi=>Go.askRoom (EJ*i.bytes)>>=λ_=>
  Builtin.firstCells size sl (.slice b sl sc)>>=λold=>Builtin.firstCells size n x>>=λnew=>Go.zeroValue e>>=λz=>
   Go.newRow e (old++new++Builtin.zeroCells z.cells (EJ-(sl+n)))>>=λa=>Pure.pure (.slice (some a) (sl+n) EJ)
def oH (e:a00) (b:Option Addr) (sl sc n size:Nat) (x:fu):Sem fu:=
 Go.typeInfo e>>=λi=>if Builtin.nextslicecap (sl+n) sc*i.bytes>2^48 then
  ((Builtin.mayShare size sl n b x>>=fun c=>if(!c)=true then Go.mark .noRoom>>=fun _=>Go.unsupported (.resourceLimit "append: a slice or a string whose bytes no memory bears")else Go.unsupported (.resourceLimit "append: a slice or a string whose bytes no memory bears"))>>=fun(_:PUnit)=>fN e b sl sc n size x)
  else fN e b sl sc n size x
def fy (e:a00) (b:Option Addr) (sl sc size:Nat) (x:fu):Sem fu:=
 Builtin.lenOf x>>=λn=>if sl+n<=sc then
  Builtin.firstCells size n x>>=λnew=>match b with
   |some a=>Go.storeCells (a.add (sl*size)) new.toList>>=λ_=>Pure.pure (.slice b (sl+n) sc)
   |none=>Pure.pure (.slice b (sl+n) sc)
  else Go.typeInfo e>>=fun i=>if((sl+n:Nat):Int)>IntKind.i64.max/\(false=true\/i.bytes=0)then(Go.runtimePanic (.error "growslice: len out of range")>>=fun(_:PUnit)=>oH e b sl sc n size x)else oH e b sl sc n size x
def dZ.typeInfo {f:TypeInfo->Sem β} (h:∀i,P.info? t=some i->dZ P (f i)):dZ P (Go.typeInfo t>>=f):=by
 show dZ P (Sem.bind (match P.info? t with|some i=>Pure.pure i|none=>Go.stuck "no such type") f);cases hi:P.info? t with
 |none=>exact trivial
 |some i=>exact h i hi
def uj (e:a00) (b:Option Addr) (sl sc n size:Nat) (x:fu):dZ P (aC.oH e b sl sc n size x):=by
 refine dZ.typeInfo λi hi=>?_;split
 .refine dZ.bind ?_;refine dZ.SP (λc=>?_) _;split<;>exact trivial
 .exact trivial
def BR (p:Pi) (b b':Option Addr) (sl sc:Nat):Prop:=(b=none/\b'=none)\/(∃a a',b=some a/\b'=some a'/\iY p a a'/\∀k,¬p.x a.block k)\/∃a a',b=some a/\b'=some a'/\sl=0/\sc=0/\p.l=false
def BR.mono (h:Le p q) {b b':Option Addr} {sl sc:Nat} (x:BR p b b' sl sc):BR q b b' sl sc:=x.imp id λy=>y.imp (λ⟨a,a',h1,h2,h3,h4⟩=>⟨a,a',h1,h2,h3.mono h,λk hk=>h4 k (h.xr _ _ _ h3.1 hk)⟩) λ⟨a,a',h1,h2,h3,h4,h5⟩=>⟨a,a',h1,h2,h3,h4,h.l.trans h5⟩
def BR.sl {b b':Option Addr} (x:BR p b b' l c):VR S p (.slice b l c) (.slice b' l c):=by
 rcases x with⟨rfl,rfl⟩|⟨a,a',rfl,rfl,h,hX⟩|⟨a,a',rfl,rfl,rfl,rfl,hl⟩
 .exact .dn l c
 .exact h.sl (λ_=>hX) l c
 .exact .ee hl a a'
def SR.fN (hz:bz P) (e:a00) {b b':Option Addr} (sl sc n size:Nat) (hb:BR p b b' sl sc) (hx:VR S p x x') (Ll:∀b c,x=.slice b 0 c->n=0):SR P F S K N (QV S) (fN e b sl sc n size x) (fN e b' sl sc n size x') p:=by
 refine(SR.choose _).aD λq1 c uh=>SR.pG λi hi=>(SR.askRoom _).aD λq2 _ cR=>?_;have hb:=(hb.mono uh).mono cR;have hx:=(hx.mono uh).mono cR;refine(SR.firstCells size sl hb.sl (λb c h=>by simp only[Value.slice.injEq]at h;exact h.2.1)).bind λq3 o o' ip ho=>(SR.firstCells size n (hx.mono ip) Ll).bind λq4 y y' LE hy=>(SR.zeroValue hz e).bind λq5 z z' XK Ek=>?_;obtain⟨rfl,hv⟩:=Ek;exact(SR.newRow e ((((ho.mono LE).mono XK).append (hy.mono XK)).append (od hv.cells _))).bind λq6 a a' hq6 ha=>SR.pure (ha.1.sl (λ_=>ha.2.2) _ _)
def SR.oH (q7:p.l=false) (hz:bz P) (e:a00) {b b':Option Addr} (sl sc n size:Nat) (hb:BR p b b' sl sc) (hx:VR S p x x') (Ll:∀b c,x=.slice b 0 c->n=0):SR P F S K N (QV S) (oH e b sl sc n size x) (oH e b' sl sc n size x') p:=by
 refine SR.pG fun i hi=>SR.ite (fun _=>?_) fun _=>SR.fN hz e sl sc n size hb hx Ll;have hu:∀g,Unsupported.resourceLimit "append: a slice or a string whose bytes no memory bears" ≠ .initOrder g:=fun g h=>by cases h
 have hd:=aE.bind (BD (P:=P) size sl n b x _ hu (λ(u:PUnit)=>Pure.pure u)) (λ(_:PUnit)=>aC.fN e b sl sc n size x);rcases hb with⟨rfl,rfl⟩|⟨a,a',rfl,rfl,pH⟩|⟨a,a',rfl,rfl,_⟩
 .cases hx with
  |slice o sp l c g=>exact SR.kS (.inr ⟨q7,hd⟩) rfl
  |_=>exact SR.kS (.inr ⟨q7,hd⟩) rfl
 .exact SR.kS (.inr ⟨q7,hd⟩) rfl
 .exact SR.kS (.inr ⟨q7,hd⟩) rfl
def SR.fy (hz:bz P) (e:a00) {b b':Option Addr} (sl:Nat) {sc wK:Nat} (size:Nat) {x x':fu} (hb:VR S p (.slice b sl sc) (.slice b' sl wK)) (hE:p.l=true->∀a,b=some a->a.spot=none) (hx:VR S p x x'):SR P F S K N (QV S) (fy e b sl sc size x) (fy e b' sl wK size x') p:=by
 refine(SR.lenOf hx).bind λq1 n n' uh hn=>?_;obtain⟨rfl,hn⟩:=hn;have Ll:∀b c,x=.slice b 0 c->n=0:=λb c e=>hn b 0 c e;have hE:q1.l=true->∀a,b=some a->a.spot=none:=λh=>hE (uh.l.symm.trans h);have hb:=hb.mono uh;have hx:=hx.mono uh;clear uh;revert hb hx hE;generalize q1=p;intro hE hb hx;refine SR.ok λho=>?_;cases hl:p.l with
 |true=>
  obtain⟨_,hs⟩:=mB hb;by_cases hle:sl+n<=sc
  .have zds:sl+n<=wK:=by
    rcases hs with⟨_,_,e⟩|⟨_,_,_,_,_,⟨e,_⟩|⟨_,_,_,k,_,e⟩⟩|⟨e1,e2,a,_,e3,_,⟨_,e4⟩|⟨e4,_⟩⟩
    .omega
    .omega
    .omega
    .have:=hE hl a e3;rw[e4]at this;cases this
    .rw[hl]at e4;cases e4
   rw[zAF hle,zAF zds];refine(SR.firstCells size n hx λb c e=>hn b 0 c e).bind λq2 y y' cR hy=>?_;have hb:=hb.mono cR;rcases hs with⟨rfl,rfl,rfl⟩|⟨a,a',rfl,rfl,ha,⟨e,hX⟩|⟨_,h0,mt,k,hk,e⟩⟩|⟨e1,e2,a,_,e3,_,⟨_,e4⟩|⟨e4,_⟩⟩
   .exact SR.pure (.dn _ _)
   .subst e;have ST:=ha;have ha:=ha.mono cR;exact(SR.gi (ha.add _) hy).aD λq3 _ ip=>SR.pure ((ha.mono ip).sl (λhs k hk=>hX hs k (cR.xr _ _ _ ST.1 (ip.xr _ _ _ ha.1 hk))) _ _)
   .subst e;have ha:=ha.mono cR;exact(SR.gi (ha.add _) hy).aD λq3 _ ip=>SR.pure ((ha.mono ip).slX (ip.l.trans (cR.l.trans hl)) mt _ h0 (ip.x _ _ (cR.x _ _ hk)))
   .have:=hE hl a e3;rw[e4]at this;cases this
   .rw[hl]at e4;cases e4
  .rw[zAG hle];refine λ_=>.inl (.inl ⟨hl,?_⟩)
   have:dZ P (Go.typeInfo e>>=fun i=>if((sl+n:Nat):Int)>IntKind.i64.max/\(false=true\/i.bytes=0)then(Go.runtimePanic (.error "growslice: len out of range")>>=fun(_:PUnit)=>aC.oH e b sl sc n size x)else aC.oH e b sl sc n size x):=by
    refine dZ.typeInfo λi hi=>?_;split
    .exact dZ.SP (λ_=>uj ..) _
    .exact uj ..
   exact this
 |false=>
  obtain⟨_,hs⟩:=mB hb
  have hbr:sc=wK/\BR p b b' sl sc:=by
   rcases hs with⟨h1,h2,h3⟩|⟨a,a',h1,h2,h3,⟨h4,_⟩|⟨h4,_⟩⟩|⟨h1,h2,a,a',h3,h4,⟨h5,_⟩|⟨_,h5⟩⟩
   .exact⟨h3,.inl ⟨h1,h2⟩⟩
   .exact⟨h4,.inr (.inl ⟨a,a',h1,h2,h3,ho.wG hl _⟩)⟩
   .rw[hl]at h4;cases h4
   .rw[hl]at h5;cases h5
   .exact⟨by omega,.inr (.inr ⟨a,a',h3,h4,h1,h2,hl⟩)⟩
  obtain⟨rfl,BE⟩:=hbr;refine SR.ite (λhle=>?_) λ_=>SR.pG λi hi=>SR.ite (λ_=>?_) λ_=>SR.oH hl hz e sl sc n size BE hx Ll
  .rcases BE with⟨rfl,rfl⟩|⟨a,a',rfl,rfl,pH,hX⟩|⟨a,a',rfl,rfl,rfl,rfl,_⟩
   .exact(SR.firstCells size n hx Ll).bind λq2 y y' cR hy=>SR.pure (.dn _ _)
   .exact(SR.firstCells size n hx Ll).bind λq2 y y' cR hy=>(SR.gi ((pH.mono cR).add _) hy).aD λq3 _ ip=>SR.pure (((pH.mono cR).mono ip).sl (λ_ k hk=>hX k ((cR.trans ip).xr _ _ _ pH.1 hk)) _ _)
   .obtain rfl:n=0:=by omega
    refine(SR.sg size hx).bind λq2 y y' cR hy=>?_;obtain⟨rfl,rfl⟩:=hy;exact SR.pure (.ee (cR.l.trans hl) a a')
  .exact SR.bind (Q:=QE PUnit) (SR.err _) λq2 _ _ cR _=>SR.oH (cR.l.trans hl) hz e sl sc n size (BE.mono cR) (hx.mono cR) Ll
def SR.append (hz:bz P) (ts:Array a00) (ht:xG P ts=true) (t:a00) (h:AR S p xs cW) (hE:p.l=true->∀a l c,xs[0]?=some (.slice (some a) l c)->a.spot=none):SR P F S K N (QV S) (Builtin.append_ ts t xs) (Builtin.append_ ts t cW) p:=by
 unfold Builtin.append_;cases h0:ts[0]? with
 |none=>cases xs[0]? <;>cases xs[1]? <;>exact SR.stuck
 |some sT=>
 cases h1:xs[0]? with
 |none=>cases xs[1]? <;>exact SR.stuck
 |some s=>
 cases h2:xs[1]? with
 |none=>exact SR.stuck
 |some x=>
 obtain⟨s',BF,hs⟩:=h.get h1;obtain⟨x',uk,hx⟩:=h.get h2;rw[BF,uk];simp only;refine SR.cN λu hu=>?_;cases u with
 |slice e=>
  cases s with
  |slice b sl sc=>
   cases s' with
   |slice b' iz wK=>
    obtain⟨rfl,_⟩:=mB hs;simp only;refine(SR.sizeOf e).aD λq size hq=>?_;have key:=SR.fy (P:=P) (F:=F) (S:=S) (K:=K) (N:=N) hz e sl size (hs.mono hq) (λhl a e=>hE (hq.l.symm.trans hl) a _ _ (by rw[h1,e])) (hx.mono hq);cases b<;>cases b'<;>(try(cases hs;done))
    all_goals cases h3:ts[1]? with
    |none=>
     simp only[pure_bind,zAN,zBJ,zFA,zBV,false_or];unfold aC.fy aC.oH aC.fN at key;simp only[zAN,false_or]at key;exact key
    |some xT=>
     refine SR.cN λu hu=>?_;simp only[xG,h3,hu]at ht;unfold aC.fy aC.oH aC.fN at key;simp only[zAN,false_or]at key;cases u<;>first|(cases ht;done)|skip
     all_goals simp only[pure_bind,zAN,zBJ,zFA,zBV,false_or]
     all_goals exact key
   |_=>cases hs
  |_=>cases hs<;>exact SR.stuck
 |_=>exact SR.stuck
end
section
variable {P:un} {F:Array Func} {S:Nat->Bool} {K:Kz} {N:Nat} {p:Pi}
def SR.copy (ts:Array a00) (t:a00) (h:AR S p xs cW):SR P F S K N (QV S) (Builtin.copy_ ts t xs) (Builtin.copy_ ts t cW) p:=by
 unfold Builtin.copy_;cases h0:ts[0]? with
 |none=>cases xs[0]? <;>cases xs[1]? <;>exact SR.stuck
 |some dT=>
 cases h1:xs[0]? with
 |none=>cases xs[1]? <;>exact SR.stuck
 |some s=>
 cases h2:xs[1]? with
 |none=>exact SR.stuck
 |some x=>
 obtain⟨s',BF,hs⟩:=h.get h1;obtain⟨x',uk,hx⟩:=h.get h2;rw[BF,uk];simp only;refine SR.cN λu hu=>?_;cases u with
 |slice e=>
  cases s with
  |slice b sl sc=>
   cases s' with
   |slice b' iz wK=>
    obtain⟨rfl,hb⟩:=mB hs;simp only;refine(SR.lenOf hx).bind λq n n' hq hn=>(SR.sizeOf e).aD λq2 size cR=>?_;obtain⟨rfl,hn⟩:=hn;have YM:∀b c,x=.slice b 0 c->min n sl=0:=λb c e=>by rw[hn b 0 c e];exact Nat.zero_min _
    rcases hb with⟨rfl,rfl,_⟩|⟨a,a',rfl,rfl,pH,_⟩|⟨rfl,_,a,a',rfl,rfl,_⟩
    .exact(SR.firstCells size _ ((hx.mono hq).mono cR) YM).bind λq3 y y' ip hy=>SR.pure (.int _ _)
    .exact(SR.firstCells size _ ((hx.mono hq).mono cR) YM).bind λq3 y y' ip hy=>(SR.gi (((pH.mono hq).mono cR).mono ip) hy).aD λq4 _ LE=>SR.pure (.int _ _)
    .have e0:Nat.min n 0=0:=Nat.min_zero n;rw[e0];refine(SR.sg size ((hx.mono hq).mono cR)).bind λq3 y y' ip hy=>?_;obtain⟨rfl,rfl⟩:=hy;exact SR.pure (.int _ _)
   |_=>cases hs
  |_=>cases hs<;>exact SR.stuck
 |_=>exact SR.stuck
def LH (P:un) (ts:Array a00):Bool:=match ts[0]? with|some t=>(match P.underlying t with|some (.chan ..)=>false|_=>true)|none=>true
def SR.len (ts:Array a00) (ht:LH P ts=true) (t:a00) (h:AR S p xs cW):SR P F S K N (QV S) (Builtin.len_ ts t xs) (Builtin.len_ ts t cW) p:=by
 unfold Builtin.len_;cases h0:ts[0]? with
 |none=>cases xs[0]? <;>exact SR.stuck
 |some dT=>
 cases h1:xs[0]? with
 |none=>exact SR.stuck
 |some s=>
 obtain⟨s',BF,hs⟩:=h.get h1;rw[BF];simp only;refine SR.cN λu hu=>?_;simp only[LH,h0,hu]at ht;cases u with
 |chan=>cases ht
 |array n e=>cases hs<;>exact SR.pure (.int _ _)
 |pointer arr=>
  cases hs<;>
  .refine SR.cN λu hu=>?_;cases u<;>first|exact SR.pure (.int _ _)|exact SR.stuck
 |map k e=>
  cases hs<;>first|exact SR.stuck|exact SR.pure (.int _ _)|skip
  rename_i r r' g;refine(SR.getObj g).bind λq o o' hq ho=>?_;cases ho with
  |map c h g=>simp only;rw[h];exact SR.pure (.int _ _)
  |_=>exact SR.stuck
 |string=>cases hs<;>first|exact SR.pure (.int _ _)|exact SR.stuck
 |slice e=>cases hs<;>first|exact SR.pure (.int _ _)|exact SR.stuck
 |_=>cases hs<;>exact SR.stuck
def SR.clear (hz:bz P) (ts:Array a00) (t:a00) (h:AR S p xs cW):SR P F S K N (QV S) (Builtin.clear_ ts t xs) (Builtin.clear_ ts t cW) p:=by
 unfold Builtin.clear_;cases h0:ts[0]? with
 |none=>cases xs[0]? <;>exact SR.stuck
 |some dT=>
 cases h1:xs[0]? with
 |none=>exact SR.stuck
 |some s=>
 obtain⟨s',BF,hs⟩:=h.get h1;rw[BF];simp only;refine SR.cN λu hu=>?_;have hv:∀q,VR S q (.tuple #[]) (.tuple #[]):=λq=>VR.plain 2 _ (by simp[plain])
 have zdu:∀r r',p r r'->SR P F S K N (QV S)
  (Go.getObj r>>=fun o=>match o with|.map _ c=>Go.setObj r (.map #[] c)>>=fun _=>Pure.pure (.tuple #[])|_=>Go.stuck "clear: map expected" >>=fun(_:PUnit)=>Pure.pure (.tuple #[]))
  (Go.getObj r'>>=fun o=>match o with|.map _ c=>Go.setObj r' (.map #[] c)>>=fun _=>Pure.pure (.tuple #[])|_=>Go.stuck "clear: map expected" >>=fun(_:PUnit)=>Pure.pure (.tuple #[])) p:=by
  intro r r' g;refine(SR.getObj g).bind λq o o' hq ho=>?_;cases ho with
  |map c h g2=>exact(SR.setObj (hq _ _ g) (.map c rfl λi e e' h=>by simp at h) λ_ _ _ _ _ _ _ a=>by cases a).aD λq2 _ cR=>SR.pure (hv q2)
  |_=>exact SR.stuck
 have tf:∀(e:a00) (a a':Addr) (n:Nat),iY p a a'->SR P F S K N (QV S)
  (Go.zeroValue e>>=λz=>Go.storeCells a (Builtin.zeroCells z.cells n).toList>>=λ_=>Pure.pure (.tuple #[]))
  (Go.zeroValue e>>=λz=>Go.storeCells a' (Builtin.zeroCells z.cells n).toList>>=λ_=>Pure.pure (.tuple #[])) p:=by
  intro e a a' n ha;refine(SR.zeroValue hz e).bind λq z z' hq Ek=>?_;obtain⟨rfl,UI⟩:=Ek;exact(SR.gi (ha.mono hq) (od UI.cells n)).aD λq2 _ cR=>SR.pure (hv q2)
 cases hs with
 |wF=>cases u<;>exact SR.pure (hv p)
 |dn l c=>cases u<;>exact SR.pure (hv p)
 |ee _ a a'=>cases u<;>exact SR.pure (hv p)
 |fT=>cases u<;>exact SR.pure (hv p)
 | @dp r r' k o l c hl g h0 hx=>
   cases l with
   |zero=>cases u<;>exact SR.pure (hv p)
   |succ l=>cases u<;>first|exact SR.stuck|exact tf _ ⟨_,o,none⟩ ⟨_,o,none⟩ _ ⟨g,rfl,rfl⟩
 |map g=>cases u<;>exact zdu _ _ g
 |slice o sp l c g _=>
  cases l with
  |zero=>cases u<;>exact SR.pure (hv p)
  |succ l=>cases u<;>first|exact SR.stuck|exact tf _ ⟨_,o,sp⟩ ⟨_,o,sp⟩ _ ⟨g,rfl,rfl⟩
 |_=>cases u<;>exact SR.stuck
def SR.max2 (hx:VR S p x x') (hy:VR S p y y'):SR P F S K N (QV S) (Builtin.max2 x y) (Builtin.max2 x' y') p:=by
 cases hx<;>cases hy<;>first|exact SR.stuck|exact SR.unsupported|exact SR.pure (.int _ _)|skip
 rename_i s1 s2;refine SR.bind (Q:=QV S) (SR.stringOp .geq s1 s2) λq v v' hq hv=>?_;exact(SR.asBool hv).aD λq2 b cR=>SR.pure (.string _)
def SR.min2 (hx:VR S p x x') (hy:VR S p y y'):SR P F S K N (QV S) (Builtin.min2 x y) (Builtin.min2 x' y') p:=by
 cases hx<;>cases hy<;>first|exact SR.stuck|exact SR.unsupported|exact SR.pure (.int _ _)|skip
 rename_i s1 s2;refine SR.bind (Q:=QV S) (SR.stringOp .leq s1 s2) λq v v' hq hv=>?_;exact(SR.asBool hv).aD λq2 b cR=>SR.pure (.string _)
def SR.LI (f:fu->fu->Sem fu) (hf:∀{p:Pi} {x x' y y':fu},VR S p x x'->VR S p y y'->SR P F S K N (QV S) (f x y) (f x' y') p):∀(l l':List fu) {p:Pi} {x x':fu},l.length=l'.length->(∀(i:Nat) v v',l[i]?=some v->l'[i]?=some v'->VR S p v v')->VR S p x x'->
 SR P F S K N (QV S) (l.foldlM f x) (l'.foldlM f x') p
 | [],[],_,_,_,_,_,hx=>SR.pure hx
 | [],_::_,_,_,_,h,_,_=>by cases h
 |_::_,[],_,_,_,h,_,_=>by cases h
 |v::l,v'::l',p,x,x',h,g,hx=>by
  simp only[zFW];exact(hf hx (g 0 v v' rfl rfl)).bind λq y y' hq hy=>SR.LI f hf l l' (by simpa using h) (λi a b h1 h2=>(g (i+1) a b h1 h2).mono hq) hy
def SR.max (ts:Array a00) (t:a00) (h:AR S p xs cW):SR P F S K N (QV S) (Builtin.max_ ts t xs) (Builtin.max_ ts t cW) p:=by
 unfold Builtin.max_;have hl:xs.toList.length=cW.toList.length:=by simpa using h.1
 have hg:∀(i:Nat) v v',xs.toList[i]?=some v->cW.toList[i]?=some v'->VR S p v v':=λi v v' a b=>h.2 i v v' (by simpa using a) (by simpa using b);revert hl hg;generalize xs.toList=l;generalize cW.toList=l';intro hl hg;cases l<;>cases l'<;>first|(cases hl;done)|exact SR.stuck|skip
 exact SR.LI _ SR.max2 _ _ (by simpa using hl) (λi a b h1 h2=>hg (i+1) a b h1 h2) (hg 0 _ _ rfl rfl)
def SR.min (ts:Array a00) (t:a00) (h:AR S p xs cW):SR P F S K N (QV S) (Builtin.min_ ts t xs) (Builtin.min_ ts t cW) p:=by
 unfold Builtin.min_;have hl:xs.toList.length=cW.toList.length:=by simpa using h.1
 have hg:∀(i:Nat) v v',xs.toList[i]?=some v->cW.toList[i]?=some v'->VR S p v v':=λi v v' a b=>h.2 i v v' (by simpa using a) (by simpa using b);revert hl hg;generalize xs.toList=l;generalize cW.toList=l';intro hl hg;cases l<;>cases l'<;>first|(cases hl;done)|exact SR.stuck|skip
 exact SR.LI _ SR.min2 _ _ (by simpa using hl) (λi a b h1 h2=>hg (i+1) a b h1 h2) (hg 0 _ _ rfl rfl)
def rf (P:un) (s d:a00):Bool:=match P.underlying s,P.underlying d with
 |some (.int _),some (.int _)=>true
 |some .string,some (.slice e)=>(match P.underlying e with|some (.int .u8)=>true|_=>false)
 |some .string,some .string=>true
 |some (.slice e),some .string=>(match P.underlying e with|some (.int .u8)=>true|_=>false)
 |_,_=>false
def mD (c:fu) (s:ByteArray):Sem (ForInStep ByteArray):=match c with
 |.int .u8 n=>Pure.pure (.yield (s.push (UInt8.ofNat n.toNat)))
 |_=>Go.stuck "bytesToString: byte expected"
def SR.LJ:∀{l l':List fu} {p:Pi} (s:ByteArray),l.length=l'.length->(∀(i:Nat) v v',l[i]?=some v->l'[i]?=some v'->VR S p v v')->SR P F S K N (QE ByteArray) (forIn l s mD) (forIn l' s mD) p
 | [],[],_,s,_,_=>SR.pure rfl
 | [],_::_,_,_,h,_=>by cases h
 |_::_,[],_,_,h,_=>by cases h
 |c::l,c'::l',p,s,h,g=>by
  simp only[zGF];have hc:=g 0 c c' rfl rfl;have rest:∀q s,Le p q->SR P F S K N (QE ByteArray) (forIn l s mD) (forIn l' s mD) q:=λq s hq=>SR.LJ s (by simpa using h) λi v v' a b=>(g (i+1) v v' a b).mono hq;cases hc<;>first|exact SR.stuck|skip
  rename_i k n;cases k<;>first|exact SR.stuck|exact rest p _ (Le.refl _)
def SR.bytesToString (hx:VR S p x x'):SR P F S K N (QV S) (Conv.bytesToString x) (Conv.bytesToString x') p:=by
 have e:∀(a:Addr) (n c:Nat),Conv.bytesToString (.slice (some a) n c)=(Go.loadCells a n>>=λcs=>forIn cs.toList ByteArray.empty mD>>=λs=>Pure.pure (Value.string s)):=by
  intro a n c;unfold Conv.bytesToString mD;simp only[zEE];rfl
 have key:∀{q:Pi} {cs kQ:Array fu},AR S q cs kQ->SR P F S K N (QV S) (forIn cs.toList ByteArray.empty mD>>=λs=>Pure.pure (Value.string s)) (forIn kQ.toList ByteArray.empty mD>>=λs=>Pure.pure (Value.string s)) q:=λ{q cs kQ} h=>
  (SR.LJ _ (by simpa using h.1) λi v v' a b=>h.2 i v v' (by simpa using a) (by simpa using b)).aD λq2 s hq=>SR.pure (.string s)
 cases hx<;>first|exact SR.stuck|exact SR.pure (.string _)|skip
 .rename_i r r' o sp l c h _;rw[e,e];exact(SR.loadCells (a:=⟨r,o,sp⟩) (a':=⟨r',o,sp⟩) ⟨h,rfl,rfl⟩ l).bind λq cs kQ hq qS=>key qS
 .rename_i r r' k o l c hl h h0 hx;rw[e,e];exact(SR.loadCells (a:=⟨r,o,none⟩) (a':=⟨r',o,none⟩) ⟨h,rfl,rfl⟩ l).bind λq cs kQ hq qS=>key qS
def SR.stringToBytes (e:a00) (s:ByteArray):SR P F S K N (QV S) (Conv.stringToBytes e s) (Conv.stringToBytes e s) p:=by
 unfold Conv.stringToBytes;refine(SR.choose _).aD λq c hq=>?_;refine(SR.newRow e ((AR.map _ _ _ λx _=>.int _ _).append (AR.replicate _ (.int _ _)))).bind λq2 a a' cR ha=>?_;refine SR.bind (Q:=QE Unit) ?_ λq3 _ _ ip _=>SR.pure ((ha.1.mono ip).sl (λ_ k hk=>ha.2.2 k (ip.xr _ _ _ ha.1.1 hk)) _ _);unfold Go.markStringish;refine(SR.shape ha.1.1).aD λq3 x ip=>?_;cases x with
 |none=>exact SR.pure rfl
 |some x=>
  obtain⟨e,n⟩:=x;exact λhp=>.inr ⟨_,_,rfl,⟨ip _ _ ha.1.1,rfl,rfl⟩,ha.2.1,rfl⟩
def SR.convert (s d:a00) (ho:rf P s d=true) (hx:VR S p x x'):SR P F S K N (QV S) (Go.convert s d x) (Go.convert s d x') p:=by
 unfold Go.convert;refine SR.cN λu hu=>SR.cN λv hv=>?_;simp only[rf,hu,hv]at ho;cases u<;>first|(cases ho;done)|skip
 .cases v<;>first|(cases ho;done)|skip
  cases hx<;>first|exact SR.stuck|exact SR.pure (.int _ _)|exact SR.unsupported
 .cases v<;>first|(cases ho;done)|skip
  .cases hx<;>first|exact SR.stuck|exact SR.unsupported|exact SR.pure (.string _)
  .rename_i e;cases hx<;>first|exact SR.stuck|exact SR.unsupported|skip
   refine SR.cN λw hw=>?_;simp only[hw]at ho;cases w<;>first|(cases ho;done)|skip
   rename_i k;cases k<;>first|(cases ho;done)|exact SR.stringToBytes _ _
 .cases v<;>first|(cases ho;done)|skip
  rename_i e
  have rest:∀{y y':Value},VR S p y y'->SR P F S K N (QV S) (Go.underlying e>>=fun w=>match w with|.int .u8=>Conv.bytesToString y|.int .i32=>Conv.runesToString y|_=>Go.stuck "Convert: a slice of what to string?")
   (Go.underlying e>>=fun w=>match w with|.int .u8=>Conv.bytesToString y'|.int .i32=>Conv.runesToString y'|_=>Go.stuck "Convert: a slice of what to string?") p:=fun{y y'} hy=>by
   refine SR.cN λw hw=>?_;simp only[hw]at ho;cases w<;>first|(cases ho;done)|skip
   rename_i k;cases k<;>first|(cases ho;done)|exact SR.bytesToString hy
  have xE:=hx;cases hx<;>first|exact rest xE|exact SR.pure (.string _)|skip
  .rename_i _ hj hv;cases x'<;>first|(cases hv;done)|exact rest xE
inductive NX (S:Nat->Bool) (K:Kz) (p:Pi):Next->Next->Prop
 |value {v v':fu} (h:VR S p v v'):NX S K p (.value v) (.value v')
 |skip:NX S K p .skip .skip
 |enter {f:Nat} {xs cW:Array fu} (hf:S f=true) (h:AR S p xs cW):NX S K p (.enter f xs) (.enter f cW)
 |round {l l' f:Nat} {xs cW:Array fu} {a b:Code} (hl:p l l') (hf:S f=true) (h:AR S p xs cW) (ha:K a) (hb:K b) (hz:K (.label (100000+f))):NX S K p (.round l f xs a b) (.round l' f cW a b)
abbrev QX (S:Nat->Bool) (K:Kz):Pi->Next->Next->Prop:=λq a b=>NX S K q a b
def rh (P:un) (F:Array Func) (S:Nat->Bool):Prop:=(S JK=true->P.info? 1000000=none)/\∀f,S f=true->(P.funcs[f]?=none/\F[f]?=none)\/
 ∃fn mv,P.funcs[f]? =some fn/\F[f]? =some mv/\fn.body.isSome=true/\mv.body.isSome=true/\fn.name≠ "runtime.NumGoroutine" /\mv.name≠ "runtime.NumGoroutine"
def xH (h:P.info? 1000000=none):aE P (Go.typeInfo 1000000):=by
 unfold Go.typeInfo;refine aE.inP (k:=fun P=>match P.info? 1000000 with|some i=>Pure.pure i|none=>Go.stuck "no such type") ?_;rw[h];exact aE.stuck _
def wL (n:String) (h:ys[0]?=some v):invoke (.fn (.method n) #[]) ys=callMethod v n (ys.extract 1 ys.size):=by
 show(match ys[0]? with|some recv=>callMethod recv n (ys.extract 1)|_=>Go.stuck "call: a method without a receiver")=_;rw[h]
def xI (xs:Array Value):(Deferred.ofValue MF xs>>=fun d=>invoke d.target d.args)=callMethod (.iface 1000000 .nilIface) "" ((#[Value.iface 1000000 .nilIface]++xs).extract 1 (#[Value.iface 1000000 .nilIface]++xs).size):=by
 show invoke (.fn (.method "") #[]) (#[.iface 1000000 .nilIface]++xs)=_;exact wL (v:=.iface 1000000 .nilIface) "" (by simp[Array.getElem?_append])
def PE (h:P.info? 1000000=none) (xs:Array fu):aE P (Deferred.ofValue MF xs>>=λd=>invoke d.target d.args):=by
 rw[xI];unfold callMethod;refine aE.inP (k:=fun P=>Sem.bind (method (P.types.size+Made.depth) 1000000 .nilIface "") _) ?_;refine aE.bind ?_ _;show aE P (method ((P.types.size+99)+1) 1000000 .nilIface "");unfold method;exact aE.bind (xH h) _
def UJ (h:P.info? 1000000=none) (f:Option Bool->Sem α):aE P (Go.program>>=fun q=>nilAhead (q.types.size+Made.depth) 1000000 .nilIface "" >>=f):=by
 refine aE.inP (k:=fun P=>Sem.bind (nilAhead (P.types.size+Made.depth) 1000000 .nilIface "") _) ?_;refine aE.bind ?_ _;show aE P (nilAhead ((P.types.size+99)+1) 1000000 .nilIface "");unfold nilAhead;exact aE.bind (xH h) _
def SR.callFunc (hb:rh P F S) {f:Nat} (hf:S f=true) (h:AR S p xs cW):SR P F S K N (QX S K) (Go.callFunc f xs) (Go.callFunc f cW) p:=by
 unfold Go.callFunc;refine SR.pF ?_
 have key:∀fn:Func,fn.body.isSome=true->fn.name≠ "runtime.NumGoroutine" ->fn.body.isNone=false/\(fn.name== "runtime.NumGoroutine")=false:=fun fn h2 h3=>
  ⟨by cases hx:fn.body<;>simp[hx]at h2⊢,by simpa using h3⟩
 rcases hb.2 f hf with⟨h1,h2⟩|⟨fn,mv,h1,h2,h3,h4,h5,h6⟩
 .rw[h1];exact SR.stuck
 .have uk:(ae P F).funcs[f]?=some mv:=h2;rw[h1,uk];simp only[key fn h3 h5,key mv h4 h6,zAN,zBJ];exact SR.pure (.enter hf h)
def PF (ps:Array Nat) {as bs:Array fu} (h:AR S p xs ys) (k:AR S p as bs):AR S p ((ps.zip xs).foldl (λts (t,a)=>ts.setIfInBounds t a) as) ((ps.zip ys).foldl (λts (t,a)=>ts.setIfInBounds t a) bs):=by
 rw[<-zEV,<-zEV,Array.toList_zip,Array.toList_zip];have hx:∀(i:Nat) v v',xs.toList[i]?=some v->ys.toList[i]?=some v'->VR S p v v':=λi v v' a b=>h.2 i v v' (by simpa using a) (by simpa using b);have hl:xs.toList.length=ys.toList.length:=by simpa using h.1
 revert hx hl;generalize xs.toList=l;generalize ys.toList=l';generalize ps.toList=m;intro hx hl;clear h;induction m generalizing l l' as bs with
 |nil=>exact k
 |cons t m ih=>
  cases l<;>cases l'<;>first|(cases hl;done)|skip
  .exact k
  .rename_i v l v' l';simp only[List.zip_cons_cons,zDA];exact ih (k.set t (hx 0 v v' rfl rfl)) l l' (λi a b h1 h2=>hx (i+1) a b h1 h2) (by simpa using hl)
def SR.yield (hl:p l l') (h:AR S p xs cW):SR P F S K N (QX S K) (Instr.yield l xs) (Instr.yield l' cW) p:=by
 unfold Instr.yield Instr.getLoop;refine SR.bind (Q:=λq (a b:Loop)=>OR S K q (.loop a) (.loop b)) ?_ λq r r' hq hr=>?_
 .refine(SR.getObj hl).bind λq o o' hq ho=>?_;have ho0:=ho;cases ho with
  |loop h1 h2 h3 h4 h5 h6 h7 h8 k1 k2 k3 k4 k5=>exact SR.pure ho0
  |_=>exact SR.stuck
 .cases hr with
  |loop h1 h2 h3 h4 h5 h6 h7 h8 k1 k2 k3 k4 k5=>
   have h:=h.mono hq;rw[<-h.1,<-h5,<-h3,<-h6,<-h7];dsimp only;refine SR.ite (λ_=>SR.stuck) λ_=>?_;exact SR.pure (.round (hq _ _ hl) k1 (PF r.params h h4) k2 k3 k5)
def iA (P:un) (S:Nat->Bool):Operand->Bool
 |.tmp _=>true
 |.const v=>plain 50 v
 |.global g=>decide (g<P.globals.size)&&S (P.funcs.size+g)
 |.func f=>S f
def ul (P:un) (S:Nat->Bool) (c:Call):Bool:=
 match c.callee with
 |.builtin .append=>xG P c.argTypes
 |.builtin .len=>LH P c.argTypes
 |.builtin .copy|.builtin .clear|.builtin .max|.builtin .min=>true
 |.value f=>iA P S f
 |_=>false
def pN (P:un) (S:Nat->Bool) (o:Op):Bool:=
 o.operands.all (iA P S)&&match o with
 |.nilCheck _|.move _|.assign _|.pick _ _ _|.alloc _|.box _ _|.build _ _|.buildSlice _ _ _|.load _ _|.store _ _ _|.unOp _ _ _|.makeSlice _ _ _|.slice _ _ _ _ _|.field _ _ _|.indexAddr _ _ _|.index _ _ _|.extract _ _=>true
 |.makeMap _ none=>true
 |.binOp op t _ _ _=>nY P op t
 |.convert s d _=>rf P s d
 |.makeFunc (.func f) _ _=>S f
 |.fieldAddr t _ f=>match P.underlying t with
  |some (.struct fs)=>(match fs[f]? with|some g=>(match P.info? g.type with|some i=>i.size !=0|none=>true)|none=>true)
  |_=>true
 |.lookup t _ _ _=>xF P t
 |.mapUpdate t _ _ _=>xF P t&&(!S JK||gF P t||Jc P t)
 |.call c=>ul P S c
 |_=>false
def gG (S:Nat->Bool) (o:Op):Bool:=
 match o with
 |.call c=>(match c.callee with|.value (.func f)=>S (JK+1+f)|_=>false)&&c.args.isEmpty
 |_=>false
def ri:fu->Bool
 |.slice (some a) _ _=>a.spot.isNone
 |_=>true
def xJ (h:ri v=true) (e:v=.slice (some a) l c):a.spot=none:=by
 subst e;simpa [ri]using h
def zu (P:un) (r:Operand->fu):Op->Prop
 |.mapUpdate t _ k _=>gF P t=false->ug (pM P t) (r k)
 |_=>True
def lP (r:Operand->fu):Op->Bool
 |.call ⟨.builtin _,as,_⟩=>match as[0]? with|some x=>ri (r x)|none=>true
 |.slice _ x _ _ _=>ri (r x)
 |_=>true
def SU:Op->Bool
 |.slice _ _ _ _ _=>false
 |_=>true
structure tg (P:un) (S:Nat->Bool) (p:Pi) (r r':Operand->fu):Prop where
 tmp:∀t,VR S p (r (.tmp t)) (r' (.tmp t))
 const:∀v,r (.const v)=v/\r' (.const v)=v
 global:∀g,g<P.globals.size->S (P.funcs.size+g)=true->VR S p (r (.global g)) (r' (.global g))
 func:∀f,r (.func f)=.func (.func f) #[] #[]/\r' (.func f)=.func (.func f) #[] #[]
def tg.at (h:tg P S p r r') {x:Operand} (hx:iA P S x=true):VR S p (r x) (r' x):=by
 cases x with
 |tmp t=>exact h.tmp t
 |const v=>rw[(h.const v).1,(h.const v).2];exact VR.plain 50 v hx
 |global g=>
  simp only[iA,zAE,zBP]at hx;exact h.global g hx.1 hx.2
 |func f=>
  rw[(h.func f).1,(h.func f).2];exact .func hx rfl rfl (λi v v' e=>by simp at e) (λi v v' e=>by simp at e)
def tg.many (h:tg P S p r r') {xs:Array Operand} (hx:∀x∈xs,iA P S x=true):AR S p (xs.map r) (xs.map r'):=AR.map xs r r' λx m=>h.at (hx x m)
def tg.opt (h:tg P S p r r') {x:Option Operand} (hx:∀y,x=some y->iA P S y=true):OV S p (x.map r) (x.map r'):=by
 cases x with
 |none=>trivial
 |some y=>exact h.at (hx y rfl)
def SR.cZ {s s':Sem fu} (h:SR P F S K N (QV S) s s' p):SR P F S K N (QX S K) (s>>=λv=>Pure.pure (.value v)) (s'>>=λv=>Pure.pure (.value v)) p:=h.bind λq v v' hq hv=>SR.pure (.value hv)
def SR.LK {s s':Sem Unit} (h:SR P F S K N (QE Unit) s s' p):SR P F S K N (QX S K) (s>>=λ_=>Pure.pure .skip) (s'>>=λ_=>Pure.pure .skip) p:=h.aD λq v hq=>SR.pure .skip
def SR.mE (hb:rh P F S) {f f':fu} (hf:VR S p f f') (h:AR S p xs cW):
 SR P F S K N (QX S K) (Deferred.ofValue f xs>>=λd=>invoke d.target d.args) (Deferred.ofValue f' cW>>=λd=>invoke d.target d.args) p:=by
 cases hf<;>first|exact SR.stuck|skip
 .rename_i f fs fs' cs kQ hS h1 h2 g1 g2;have a1:AR S p fs fs':=⟨h1,g1⟩
  have a2:AR S p cs kQ:=⟨h2,g2⟩
  exact SR.callFunc hb hS ((a1.append h).append a2)
 .rename_i l l' hl;show SR P F S K N (QX S K) (Instr.yield l (#[]++xs)) (Instr.yield l' (#[]++cW)) p;rw[zDR,zDR];exact SR.yield hl h
 .exact SR.nilDeref
 .rename_i hl hj n as bs;exact SR.kS (.inr ⟨hl,PE (hb.1 hj) xs⟩) (by rw[xI];rfl)
end
end Go.aC
