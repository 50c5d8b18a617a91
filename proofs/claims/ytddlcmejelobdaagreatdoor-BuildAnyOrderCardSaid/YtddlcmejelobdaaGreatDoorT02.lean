/- A part. Conditions: none. -/
import Derived.Test.YtddlcmejelobdaaGreatDoorT01
set_option linter.all false
noncomputable section
namespace Go.aC
variable {a:Code} {c i m n r r':Nat} {cW tmps xs:Array fu} {dL t t':List Frame} {es:Array Event} {f f' fr g:Frame} {gY lw w1 w2:nq} {k l l':List Item} {kn own:Nat->Prop} {o:Oper} {ops:Array Oper} {rest:List Nat} {s':GStep} {v v':fu} {α β:Type} {σ:Machine}
section
variable {P:un} {F:Array Func} {S:Nat->Bool} {K:Kz} {N:Nat} {p:Pi}
def SR.mono {Q Q':Pi->α->β->Prop} {s:Sem α} {s':Sem β} (g:∀q a b,Le p q->Q q a b->Q' q a b) (h:SR P F S K N Q s s' p):SR P F S K N Q' s s' p:=by
 have:=h.bind (f:=Pure.pure) (f':=Pure.pure) λq a b hq x=>SR.pure (g q a b hq x);simpa using this
def SR.G7 (GX:p.l=true->S 999999=false) {r r':Operand->fu} (h:tg P S p r r') (o:Oper) {t:a00} {x:Operand} {lo hi mx:Option Operand} (ho:o.op=.slice t x lo hi mx) (cg:∀y∈o.op.operands,iA P S y=true) (hE:p.l=true->ri (r x)=true):
 SR P F S K N (λq n n'=>QX S K q n n'\/(p.l=true/\mx=none/\∃v v',n=.value v/\n'=.value v'/\Pp q (r x) v v')) (Go.execOp r o) (Go.execOp r' o) p:=by
 unfold Go.execOp;obtain⟨dst,op,ty,pos,af,gd⟩:=o;simp only at ho cg⊢;subst ho;simp only
 have key:SR P F S K N (λq v v'=>VR S q v v'\/(p.l=true/\mx.map r=none/\Pp q (r x) v v')) (Instr.sliceAt t (r x) (lo.map r) (hi.map r) (mx.map r)) (Instr.sliceAt t (r' x) (lo.map r') (hi.map r') (mx.map r')) p:=by
  have hx:=h.at (cg x (by simp[Op.operands]))
  have h1:OV S p (lo.map r) (lo.map r'):=h.opt λy hy=>cg y (by simp[Op.operands,hy]);have h2:OV S p (hi.map r) (hi.map r'):=h.opt λy hy=>cg y (by simp[Op.operands,hy]);have h3:OV S p (mx.map r) (mx.map r'):=h.opt λy hy=>cg y (by simp[Op.operands,hy]);unfold Instr.sliceAt;refine SR.cN λu hu=>?_;cases u with
  |array n e=>
   refine(SR.sureAddr hx).bind λq a a' hq ha=>?_;refine(SR.sliceBounds false n n (h1.mono hq) (h2.mono hq) (h3.mono hq)).aD λq2 b cR=>?_;obtain⟨l,hh,m⟩:=b;simp only;refine(SR.sizeOf e).aD λq3 s ip=>?_;have ha:=(ha.mono cR).mono ip;refine SR.ok λho=>?_;have iP:=λr=>noX (λx=>GX (((hq.trans cR).trans ip).l.symm.trans x)) ho r;split
   .exact SR.pure (.inl (ha.sl (iP _) _ _))
   .exact SR.pure (.inl ((ha.add _).sl (iP _) _ _))
  |_=>exact SR.slice GX t hx (λhl b l c e=>xJ (hE hl) e) h1 h2 h3
 exact key.bind λq v v' hq hv=>SR.pure (hv.elim (λa=>.inl (.value a)) λa=>.inr ⟨a.1,by cases mx<;>simp_all,v,v',rfl,rfl,a.2.2⟩)
def SR.execOp (OS:p.l=true->S JK=false) (hz:bz P) (hc:aS P) (hb:rh P F S) {r r':Operand->fu} (h:tg P S p r r') (o:Oper) (ho:pN P S o.op=true) (hs:p.l=true->SU o.op=true) (hE:p.l=true->lP r o.op=true) (hk:S JK=true->zu P r o.op):SR P F S K N (QX S K) (Go.execOp r o) (Go.execOp r' o) p:=by
 unfold Go.execOp;obtain⟨dst,op,ty,pos,af,gd⟩:=o;simp only at ho⊢;unfold pN at ho;simp only[zAE]at ho;obtain⟨um,cj⟩:=ho
 have cg:∀x∈op.operands,iA P S x=true:=by
  intro x hx;obtain⟨i,hi,he⟩:=zCI.1 hx;have:=zBQ.1 um i hi;rw[he]at this;exact this
 cases op<;>try(simp only[zAN]at cj)
 case move x=>exact SR.pure (.value (h.at (cg x (by simp[Op.operands]))))
 case assign x=>exact SR.pure (.value (h.at (cg x (by simp[Op.operands]))))
 case pick c a b=>
  refine(SR.asBool (h.at (cg c (by simp[Op.operands])))).aD λq t hq=>?_;cases t with
  |true=>exact SR.pure (.value ((h.at (cg a (by simp[Op.operands]))).mono hq))
  |false=>exact SR.pure (.value ((h.at (cg b (by simp[Op.operands]))).mono hq))
 case alloc e=>exact SR.cZ (SR.alloc hz e)
 case box e x=>exact SR.cZ (SR.box e (h.at (cg x (by simp[Op.operands]))))
 case build t ps=>
  refine SR.cZ (SR.build hz t ?_);rw[zFY,zFY];refine PL.map _ r r' λx hx=>h.at (cg x.2 ?_)
  simp only[Op.operands,zFZ,zBO];exact⟨x,hx,rfl⟩
 case buildSlice t n ps=>
  refine SR.cZ (SR.buildSlice hz t n ?_);rw[zFY,zFY];refine PL.map _ r r' λx hx=>h.at (cg x.2 ?_)
  simp only[Op.operands,zFZ,zBO];exact⟨x,hx,rfl⟩
 case load t a=>exact SR.cZ (SR.loadAt t (h.at (cg a (by simp[Op.operands]))))
 case store t a x=>exact SR.LK (SR.storeAt t (h.at (cg a (by simp[Op.operands]))) (h.at (cg x (by simp[Op.operands]))))
 case nilCheck x=>
  have hx:=h.at (cg x (by simp[Op.operands]))
  dsimp only;revert hx;generalize r x=v;generalize r' x=v';intro hx;have xE:=hx;cases hx with
  |wE=>exact SR.nilDeref
  |nilIface=>exact SR.nilDeref
  |nilFunc=>exact SR.nilDeref
  |EA hl hj n xs ys=>exact SR.kS (.inr ⟨hl,UJ (hb.1 hj) _⟩) rfl
  |qX hl hj hv=>
   cases v'<;>first|(cases hv;done)|exact SR.pure (Q:=QX S K) (NX.value xE)|skip
   .rename_i a;cases a<;>first|(cases hv;done)|exact SR.pure (Q:=QX S K) (NX.value xE)
   .rename_i f xs ys;cases f<;>first|(cases hv;done)|exact SR.pure (Q:=QX S K) (NX.value xE)
  |_=>exact SR.pure (Q:=QX S K) (NX.value xE)
 case binOp op t x y t2=>
  have hx:=h.at (cg x (by simp[Op.operands]))
  have hy:=h.at (cg y (by simp[Op.operands]))
  by_cases hj:p.l=false/\(op=.eql\/op=.neq)/\(r x=.tuple #[]\/r y=.tuple #[])
  ·
   obtain⟨hl,hj⟩:=hj
   have hd:aE P (Go.eqGuard op t x y (r x) (r y)>>=λ_=>Go.binOp op t (r x) (r y))/\zk (Go.eqGuard op t x y (r x) (r y)>>=λ_=>Go.binOp op t (r x) (r y))=true:=by
    have hnp:fI (r x) (r y)=false:=by rcases hj.2 with e|e<;>rw[e]<;>cases r x<;>cases r y<;>rfl
    have hg:Go.eqGuard op t x y (r x) (r y)=Pure.pure ():=by
     rcases hj.1 with rfl|rfl
     .rw[rb];rcases hj.2 with e|e<;>rw[e]<;>cases r x<;>cases r y<;>rfl
     .rw[rc];rcases hj.2 with e|e<;>rw[e]<;>cases r x<;>cases r y<;>rfl
    rw[hg];show aE P (Go.binOp op t (r x) (r y))/\zk (Go.binOp op t (r x) (r y))=true;rcases hj.1 with rfl|rfl
    .simp only[nY,zAE]at cj;rw[aC.tI t hnp hj.2];exact⟨aE.bind (kV cj.1 hj.2) _,kW _⟩
    .simp only[nY,zAE]at cj;rw[aC.tJ t hnp hj.2];exact⟨aE.bind (kV cj.1 hj.2) _,kW _⟩
   exact SR.cZ (SR.kS (.inr ⟨hl,hd.1⟩) hd.2)
  .refine SR.cZ ((SR.eqGuard op t cj x y hx hy λh1 h2=>hj ⟨h1,h2⟩).aD λq _ hq=>SR.binOp hc op t cj (hx.mono hq) (hy.mono hq))
 case unOp op t x=>exact SR.cZ (SR.unary op (h.at (cg x (by simp[Op.operands]))))
 case convert s d x=>exact SR.cZ (SR.convert s d cj (h.at (cg x (by simp[Op.operands]))))
 case makeFunc fn fs cs=>
  cases fn<;>simp only[zAN]at cj;rename_i f;have h1:AR S p (fs.map r) (fs.map r'):=h.many λx hx=>cg x (by simp[Op.operands,hx]);have h2:AR S p (cs.map r) (cs.map r'):=h.many λx hx=>cg x (by simp[Op.operands,hx]);exact SR.pure (.value (.func cj h1.1 h2.1 h1.2 h2.2))
 case makeMap t rs=>
  cases rs<;>simp only[zAN]at cj;exact SR.cZ (SR.makeMap t)
 case makeSlice t l c=>exact SR.cZ (SR.makeSlice hz t (h.at (cg l (by simp[Op.operands]))) (h.at (cg c (by simp[Op.operands]))))
 case slice t x lo hi mx=>
  have hl:p.l=true->False:=λh=>by have:=hs h;cases this
  exact SR.mono (λq n n' _ h=>h.elim id λh=>(hl h.1).elim) (SR.G7 (λh=>(hl h).elim) h ⟨dst,.slice t x lo hi mx,ty,pos,af,gd⟩ rfl cg λh=>(hl h).elim)
 case fieldAddr t x f=>
  refine SR.cZ (SR.fieldAt t f ?_ (h.at (cg x (by simp[Op.operands]))));intro fs g i hu hg hi;simp only[hu,hg,hi]at cj;simpa using cj
 case field t x f=>exact SR.cZ (SR.field t f (h.at (cg x (by simp[Op.operands]))))
 case indexAddr t x i=>exact SR.cZ (SR.indexAt t (h.at (cg x (by simp[Op.operands]))) (h.at (cg i (by simp[Op.operands]))))
 case index t x i=>exact SR.cZ (SR.index t (h.at (cg x (by simp[Op.operands]))) (h.at (cg i (by simp[Op.operands]))))
 case lookup t x i ok=>
  exact SR.cZ (SR.lookup hz hc t cj ok (h.at (cg x (by simp[Op.operands]))) (h.at (cg i (by simp[Op.operands]))))
 case mapUpdate t m k x=>
  simp only[zAE,zBM,zCL]at cj
  have hJ:S JK=true->gF P t=true\/Jc P t=true:=λh=>by
   rcases cj.2 with(h2|h2)|h2
   .rw[h]at h2;cases h2
   .exact .inl h2
   .exact .inr h2
  exact SR.LK (SR.mapUpdate OS hc t hJ cj.1 hk (h.at (cg m (by simp[Op.operands]))) (h.at (cg k (by simp[Op.operands]))) (h.at (cg x (by simp[Op.operands]))))
 case extract x i=>exact SR.cZ (SR.extract (h.at (cg x (by simp[Op.operands]))) i)
 case call c=>
  obtain⟨cl,as,ts⟩:=c;have ha:AR S p (as.map r) (as.map r'):=h.many λx hx=>cg x (by simp[Op.operands,Call.operands,hx]);unfold ul at cj;cases cl<;>simp only[zAN]at cj;case value f=>exact SR.mE hb (h.at cj) ha
  case builtin b=>
   have hE2:p.l=true->∀a l c,(as.map r)[0]?=some (.slice (some a) l c)->a.spot=none:=by
    intro hl a l c e;have hE:=hE hl;rw[zCN]at e;cases h0:as[0]? with
    |none=>rw[h0]at e;cases e
    |some x=>
     rw[h0]at e;simp only[zBA,zAA]at e;simp only[lP,h0]at hE;exact xJ hE e
   cases b<;>simp only[zAN]at cj;case append=>exact SR.cZ (SR.append hz ts cj ty ha hE2)
   case len=>exact SR.cZ (SR.len ts cj ty ha)
   case copy=>exact SR.cZ (SR.copy ts ty ha)
   case clear=>exact SR.cZ (SR.clear hz ts ty ha)
   case max=>exact SR.cZ (SR.max ts ty ha)
   case min=>exact SR.cZ (SR.min ts ty ha)
end
def G8 (P:un):Op->Option Nat
 |.load t _=>if gC P t=true then some (uf P t)else none
 |_=>none
def LL:Op->Bool
 |.load _ _=>true
 |_=>false
def BG (P:un) (ops:Array Oper):Bool:=ops.any λo=>match o.op with|.mapUpdate t _ _ _=>!gF P t|_=>false
def PG (P:un) (ops:Array Oper):Bool:=(List.range ops.size).all λi=>match ops[i]? with
 |some o=>(match o.op with
  |.mapUpdate t _ k _=>gF P t||(match k with
   |.tmp s=>ops.all (λo=>!(o.dst==some s)||G8 P o.op==some (pM P t))&&(List.range i).any (λj=>(ops[j]?).bind (·.dst)==some s)
   |_=>false)
  |_=>true)
 |none=>true
def KR (P:un) (ops:Array Oper) (is:List Nat) (tmps:Array fu):Prop:=BG P ops=true->PG P ops=true/\is.Pairwise (·<·)/\
 ∀s n,(∀o∈ops,o.dst=some s->G8 P o.op=some n)->(∃(j:Nat) (o:Oper),ops[j]?=some o/\o.dst=some s/\j∉is)->ug n (tmps.getD s undef)
def iB:Item->Bool
 |.inRegion _ _=>false
 |_=>true
def iC (P:un) (tmps:Array fu):List Item->Prop
 | []=>True
 |it::k=>(∀x∈k,iB x=true)/\∀ops is,it=.inRegion ops is->KR P ops is tmps
def iC.no {P:un} (h:∀x∈l,iB x=true):iC P tmps l:=by
 cases l with
 |nil=>trivial
 |cons it k=>exact⟨λx hx=>h x (zAR _ hx),λops is e=>by have:=h it zBL;rw[e]at this;cases this⟩
def iC.put {P:un} {it:Item} (hk:∀x∈k,iB x=true) (hi:iB it=true):iC P tmps (it::k):=iC.no λx hx=>by
 rcases zAL.1 hx with rfl|hx
 .exact hi
 .exact hk x hx
def iC.zdx {P:un} {a b:Item} (hk:∀x∈k,iB x=true) (ha:iB a=true) (hb:iB b=true):iC P tmps (a::b::k):=iC.put (λx hx=>by
 rcases zAL.1 hx with rfl|hx
 .exact hb
 .exact hk x hx) ha
def pO (P:un) (o:Oper) (v:fu):Prop:=∀n,G8 P o.op=some n->ug n v
def lg (f:Frame):Prop:=∀o,f.oper?=some o->LL o.op=false
def lg.fits {P:un} (h:lg f) (v:fu):∀o,f.oper?=some o->pO P o v:=λo ho n hn=>by
 have:=h o ho;cases hx:o.op<;>rw[hx]at hn this<;>first|cases hn|cases this
def oI (n:Nat):ug n undef:=λxs e=>by cases e
def KR.start {P:un} {S:Nat->Bool} (h:PG P ops=true):KR P ops (List.range ops.size) tmps:=λ_=>⟨h,List.pairwise_lt_range,λs n _ ⟨j,o,hj,_,hn⟩=>absurd (zDI.2 (zAD.1 hj).1) hn⟩
def KR.done {P:un} (h:KR P ops (i::rest) tmps) (hv:∀o,ops[i]?=some o->pO P o v):
 KR P ops rest (match(ops[i]?).bind (·.dst)with|some d=>tmps.setIfInBounds d v|none=>tmps):=λhs=>by
 obtain⟨h1,h2,h3⟩:=h hs;refine⟨h1,(zFL.1 h2).2,λs n cg ⟨j,o,hj,hd,hn⟩=>?_⟩;by_cases hi:(ops[i]?).bind (·.dst)=some s
 .rw[hi];simp only;obtain⟨oi,ho,hdi⟩:=zBE.1 hi;have hf:=hv oi ho n (cg oi (zDE ho) hdi);rw[zAX,zBT];split
  .split
   .exact hf
   .exact oI n
  .rename_i hx;exact absurd rfl hx
 .have UK:j∉i::rest:=λhm=>by
   rcases zAL.1 hm with rfl|hm
   .rw[hj]at hi;exact hi hd
   .exact hn hm
  have hold:=h3 s n cg ⟨j,o,hj,hd,UK⟩;cases hb:(ops[i]?).bind (·.dst)with
  |none=>exact hold
  |some d=>
   simp only;have bC:d≠s:=λe=>by subst e;exact hi hb
   rw[zAX,zCS bC,<-zAX];exact hold
def KR.fits {P:un} (h:KR P ops (i::rest) tmps) (ho:ops[i]?=some o) {r:Operand->fu} (hr:∀s,r (.tmp s)=tmps.getD s undef):zu P r o.op:=by
 unfold zu;split
 .rename_i t m k x cj;intro hl
  have hs:BG P ops=true:=by
   unfold BG;obtain⟨av,he⟩:=zAD.1 ho;exact Array.any_eq_true.2 ⟨i,av,by rw[he,cj];simp[hl]⟩
  obtain⟨h1,h2,h3⟩:=h hs;have h4:=zCD.1 h1 i (zDI.2 (zAD.1 ho).1);simp only[ho,cj,hl,zEB]at h4;cases k with
  |tmp s=>
   simp only[zAE]at h4;rw[hr];obtain⟨j,hj,hjd⟩:=List.any_eq_true.1 h4.2;have hjd:(ops[j]?).bind (·.dst)=some s:=by simpa using hjd
   obtain⟨oj,Jd,XM⟩:=zBE.1 hjd;refine h3 s _ (λo2 pz YN=>?_) ⟨j,oj,Jd,XM,λhm=>?_⟩
   .have:=Array.all_eq_true_iff_forall_mem.1 h4.1 o2 pz;rw[YN]at this;simpa using this
   .have av:=zDI.1 hj;rcases zAL.1 hm with rfl|hm
    .omega
    .have:=(zFL.1 h2).1 j hm;omega
  |_=>cases h4
 .trivial
def codeOk (P:un) (S:Nat->Bool):Code->Bool
 |.region _ ops draw=>(ops.all λo=>pN P S o.op||gG S o.op)&&(!S JK||!BG P ops||(!draw&&PG P ops))
 |.seq a b=>codeOk P S a&&codeOk P S b
 |.cond c a b=>iA P S c&&codeOk P S a&&codeOk P S b
 |.block _ c|.loop c|.scope c=>codeOk P S c
 |.rangeFunc f _ a b=>iA P S f&&codeOk P S a&&codeOk P S b
 |.label n=>decide (n<100000)||!S (P.funcs.size+P.globals.size+1+(n-100000))
 |_=>true
def dg:Code->Bool
 |.seq a b=>dg a&&dg b
 |.cond _ a b=>dg a&&dg b
 |.block _ c|.loop c|.scope c=>dg c
 |.rangeFunc ..=>false
 |_=>true
abbrev KS (P:un) (S:Nat->Bool):Kz:=⟨λc=>codeOk P S c=true,λ_ _=>True⟩
inductive CR (P:un) (S:Nat->Bool) (H:Code->Code->Prop):Code->Code->Prop
 |same {c:Code} (h:codeOk P S c=true) (hr:dg c=true\/∀a b,¬H a b):CR P S H c c
 |hole {c c':Code} (h:H c c'):CR P S H c c'
 |seq {a a' b b':Code} (ha:CR P S H a a') (hb:CR P S H b b'):CR P S H (.seq a b) (.seq a' b')
 |cond {c:Operand} {a a' b b':Code} (hc:iA P S c=true) (ha:CR P S H a a') (hb:CR P S H b b'):CR P S H (.cond c a b) (.cond c a' b')
 |block (i:Nat) {a a':Code} (ha:CR P S H a a'):CR P S H (.block i a) (.block i a')
 |loop {a a':Code} (ha:CR P S H a a'):CR P S H (.loop a) (.loop a')
 |refuse (w:String) (c':Code) (hr:∀a b,¬H a b):CR P S H (.refuse w) c'
structure Closed (P:un) (F:Array Func) (S:Nat->Bool) (H:FuncId->Code->Code->Prop):Prop where
 i6:bz P
 eh:aS P
 YO:S JK=true->P.info? 1000000=none
 size:F.size=P.funcs.size
 Bf:∀f,S f=true->((∀a b,¬H f a b)↔S (P.funcs.size+P.globals.size+1+f)=false)
 body:∀f,S f=true->(P.funcs[f]?=none/\F[f]?=none)\/∃fn mv c c',P.funcs[f]?=some fn/\F[f]?=some mv/\fn.body=some c/\mv.body=some c'/\CR P S (H f) c c'/\
  fn.name≠ "runtime.NumGoroutine" /\mv.name≠ "runtime.NumGoroutine" /\fn.ntmps=mv.ntmps/\fn.results=mv.results
def Closed.oJ {P:un} {F:Array Func} {S:Nat->Bool} {H:FuncId->Code->Code->Prop} (h:Closed P F S H):rh P F S:=⟨h.YO,λf hf=>
 (h.body f hf).imp id λ⟨fn,mv,c,c',h1,h2,h3,h4,_,h5,h6,_⟩=>⟨fn,mv,h1,h2,by rw[h3];rfl,by rw[h4];rfl,h5,h6⟩⟩
def jl (P:un) (S:Nat->Bool) (p:Pi):Prop:=∀g,g<P.globals.size->S (P.funcs.size+g)=true->p g g
def jl.mono {P:un} {S:Nat->Bool} {p q:Pi} (h:jl P S p) (k:Le p q):jl P S q:=λg a b=>k _ _ (h g a b)
section
variable (P:un) (S:Nat->Bool) (H:Code->Code->Prop) (p:Pi)
inductive IR:Item->Item->Prop
 |code {c c':Code} (h:CR P S H c c'):IR (.code c) (.code c')
 |inBlock (i:Nat):IR (.inBlock i) (.inBlock i)
 |inLoop {c c':Code} (h:CR P S H c c'):IR (.inLoop c) (.inLoop c')
 |inScope {c:Code} (h:codeOk P S c=true) (hr:dg c=true\/∀a b,¬H a b):IR (.inScope c) (.inScope c)
 |inRegion {ops:Array Oper} (l:List Nat) (h:∀o∈ops,(pN P S o.op||gG S o.op)=true):IR (.inRegion ops l) (.inRegion ops l)
 |pP {l l':Nat} (h:p l l') (hr:∀a b,¬H a b):IR (.inRangeFunc l) (.inRangeFunc l')
 |kz {l l':Nat} (h:p l l') (hr:∀a b,¬H a b):IR (.endRangeFunc l) (.endRangeFunc l')
 |begin:IR .beginRound .beginRound
inductive TL:List Item->List Item->Prop
 |nil:TL [] []
 |cons {i i':Item} {l l':List Item} (h:IR P S H p i i') (t:TL l l'):TL (i::l) (i'::l')
inductive DL:List Deferred->List Deferred->Prop
 |nil:DL [] []
 |cons {r r':Nat} {l l':List Deferred} (h:p r r') (t:DL l l'):DL ({target:=.collected r,args:=#[]}::l) ({target:=.collected r',args:=#[]}::l')
inductive CL:List PanicEntry->List PanicEntry->Prop
 |nil:CL [] []
 |cons {v v':fu} (b c:Bool) {l l':List PanicEntry} (h:VR S p v v') (t:CL l l'):CL (⟨v,b,c⟩::l) (⟨v',b,c⟩::l')
inductive MR:FrameMode->FrameMode->Prop
 |run:MR .run .run
 |returning:MR .returning .returning
 |panicking {l l':List PanicEntry} (h:CL S p l l'):MR (.panicking l) (.panicking l')
inductive RR:Option Nat->Option Nat->Prop
 |none:RR .none .none
 |some {l l':Nat} (h:p l l'):RR (.some l) (.some l')
end
section
variable (P:un) (S:Nat->Bool) (H:FuncId->Code->Code->Prop) (p:Pi)
structure lZ (f f':Frame):Prop where
 fn:f.fn=f'.fn
 SV:S f.fn=true
 tmps:AR S p f.tmps f'.tmps
 todo:TL P S (H f.fn) p f.todo f'.todo
 defers:DL p f.defers f'.defers
 mode:MR S p f.mode f'.mode
 kind:f.kind=.normal
 lQ:f'.kind=.normal
 round:RR p f.roundOf f'.roundOf
 Bf:f.roundOf=none\/∀a b,¬H f.fn a b
 nd:(f.defers=[]/\f'.defers=[])\/∀a b,¬H f.fn a b
 wide:(∀a b,¬H f.fn a b)\/∀fn,P.funcs[f.fn]?=some fn->fn.ntmps<=f.tmps.size
 PH:S JK=true->iC P f.tmps f.todo
inductive FL:List Frame->List Frame->Prop
 |one {f f':Frame} (h:lZ P S H p f f') (r:f.roundOf=.none/\∀c c',¬H f.fn c c'):FL [f] [f']
 |cons {f f':Frame} {l l':List Frame} (h:lZ P S H p f f') (t:FL l l') (BH:S JK=true->∀g,l.head?=some g->lg g):FL (f::l) (f'::l')
end
section
variable {P:un} {F:Array Func} {S:Nat->Bool} {H:Code->Code->Prop} {p q:Pi}
def IR.mono (h:Le p q) {i i':Item} (x:IR P S H p i i'):IR P S H q i i':=by
 cases x with
 |code h=>exact .code h
 |inBlock i=>exact .inBlock i
 |inLoop h=>exact .inLoop h
 |inScope h hr=>exact .inScope h hr
 |inRegion l h=>exact .inRegion l h
 |pP g hr=>exact .pP (h _ _ g) hr
 |kz g hr=>exact .kz (h _ _ g) hr
 |begin=>exact .begin
def TL.mono (h:Le p q) (x:TL P S H p l l'):TL P S H q l l':=by
 induction x with
 |nil=>exact .nil
 |cons g _ ih=>exact .cons (g.mono h) ih
def DL.mono (h:Le p q) {l l':List Deferred} (x:DL p l l'):DL q l l':=by
 induction x with
 |nil=>exact .nil
 |cons g _ ih=>exact .cons (h _ _ g) ih
def CL.mono (h:Le p q) {l l':List PanicEntry} (x:CL S p l l'):CL S q l l':=by
 induction x with
 |nil=>exact .nil
 |cons b c g _ ih=>exact .cons b c (g.mono h) ih
def MR.mono (h:Le p q) {l l':FrameMode} (x:MR S p l l'):MR S q l l':=by
 cases x with
 |run=>exact .run
 |returning=>exact .returning
 |panicking g=>exact .panicking (g.mono h)
def RR.mono (h:Le p q) {l l':Option Nat} (x:RR p l l'):RR q l l':=by
 cases x with
 |none=>exact .none
 |some g=>exact .some (h _ _ g)
end
section
variable {P:un} {F:Array Func} {S:Nat->Bool} {H:FuncId->Code->Code->Prop} {p q:Pi}
def lZ.mono (h:Le p q) (x:lZ P S H p f f'):lZ P S H q f f':=
 ⟨x.fn,x.SV,x.tmps.mono h,x.todo.mono h,x.defers.mono h,x.mode.mono h,x.kind,x.lQ,x.round.mono h,x.Bf,x.nd,x.wide,x.PH⟩
def FL.mono (h:Le p q) {l l':List Frame} (x:FL P S H p l l'):FL P S H q l l':=by
 induction x with
 |one g r=>exact .one (g.mono h) r
 |cons g _ BH ih=>exact .cons (g.mono h) ih BH
def VR.undef:VR S p Go.undef Go.undef:=VR.plain 2 _ (by simp[aC.plain,Go.undef])
def lZ.eval (h:lZ P S H p f f') (hg:jl P S p):tg P S p f.eval f'.eval where
 tmp t:=h.tmps.getD t VR.undef
 const v:=⟨rfl,rfl⟩
 global g hl hs:=.ptr 0 none (hg g hl hs)
 func f:=⟨rfl,rfl⟩
def lZ.EK (h:lZ P S H p f f') (hl:TL P S (H f.fn) p l l') (hr:S JK=true->iC P f.tmps l):lZ P S H p {f with todo:=l} {f' with todo:=l'}:=
 ⟨h.fn,h.SV,h.tmps,hl,h.defers,h.mode,h.kind,h.lQ,h.round,h.Bf,h.nd,h.wide,hr⟩
def lZ.finish (h:lZ P S H p f f') (hv:VR S p v v') (mF:S JK=true->∀o,f.oper?=some o->pO P o v):lZ P S H p (f.finish v) (f'.finish v'):=by
 obtain⟨fn,tmps,todo,defers,mode,kind,ro⟩:=f;obtain⟨mv,uo,YP,PI,YQ,lQ,ro'⟩:=f';obtain⟨h1,h2,h3,h4,h5,h6,h7,h8,h9,wz,si,BI,BJ⟩:=h;simp only at h1 h2 h3 h4 h5 h6 h7 h8 h9 wz si BI BJ;subst h1;cases h4 with
 |nil=>exact⟨rfl,h2,h3,.nil,h5,h6,h7,h8,h9,wz,si,BI,BJ⟩
 |cons hi ht=>
  cases hi with
  |inRegion l ho=>
   cases l with
   |nil=>exact⟨rfl,h2,h3,.cons (.inRegion _ ho) ht,h5,h6,h7,h8,h9,wz,si,BI,BJ⟩
   |cons i rest=>
    refine⟨rfl,h2,?_,.cons (.inRegion _ ho) ht,h5,h6,h7,h8,h9,wz,si,BI.imp id λh fn hf=>?_,λhj=>⟨(BJ hj).1,λops is e=>?_⟩⟩
    .simp only[Frame.finish];split
     .exact h3.set _ hv
     .exact h3
    .simp only[Frame.finish];split
     .rw[zDU];exact h fn hf
     .exact h fn hf
    .cases e;exact KR.done ((BJ hj).2 _ _ rfl) λo hox=>mF hj o hox
  |pP g hr=>exact⟨rfl,h2,h3,.cons (.kz g hr) ht,h5,h6,h7,h8,h9,wz,si,BI,λhj=>iC.put (BJ hj).1 rfl⟩
  |begin=>exact⟨rfl,h2,h3,ht,h5,h6,h7,h8,h9,wz,si,BI,λhj=>iC.no (BJ hj).1⟩
  |code g=>exact⟨rfl,h2,h3,.cons (.code g) ht,h5,h6,h7,h8,h9,wz,si,BI,BJ⟩
  |inBlock i=>exact⟨rfl,h2,h3,.cons (.inBlock i) ht,h5,h6,h7,h8,h9,wz,si,BI,BJ⟩
  |inLoop g=>exact⟨rfl,h2,h3,.cons (.inLoop g) ht,h5,h6,h7,h8,h9,wz,si,BI,BJ⟩
  |inScope g hr=>exact⟨rfl,h2,h3,.cons (.inScope g hr) ht,h5,h6,h7,h8,h9,wz,si,BI,BJ⟩
  |kz g hr=>exact⟨rfl,h2,h3,.cons (.kz g hr) ht,h5,h6,h7,h8,h9,wz,si,BI,BJ⟩
def CL.append {l l' m m':List PanicEntry} (h:CL S p l l') (k:CL S p m m'):CL S p (l++m) (l'++m'):=by
 induction h with
 |nil=>exact k
 |cons b c g _ ih=>exact .cons b c g ih
def lZ.raise (h:lZ P S H p f f') {l l':List PanicEntry} (hl:CL S p l l'):lZ P S H p (f.raise l) (f'.raise l'):=by
 obtain⟨fn,tmps,todo,defers,mode,kind,ro⟩:=f;obtain⟨mv,uo,YP,PI,YQ,lQ,ro'⟩:=f';obtain⟨h1,h2,h3,h4,h5,h6,h7,h8,h9,wz,si,BI,BJ⟩:=h;simp only at h1 h2 h3 h4 h5 h6 h7 h8 h9 wz si BI BJ;cases h6 with
 |run=>exact⟨h1,h2,h3,h4,h5,.panicking hl,h7,h8,h9,wz,si,BI,BJ⟩
 |returning=>exact⟨h1,h2,h3,h4,h5,.panicking hl,h7,h8,h9,wz,si,BI,BJ⟩
 |panicking g=>exact⟨h1,h2,h3,h4,h5,.panicking (hl.append g),h7,h8,h9,wz,si,BI,BJ⟩
def lZ.enter (hc:Closed P F S H) {f:Nat} (hf:S f=true) {xs cW:Array fu} (h:AR S p xs cW) {k k':CallKind} (hk:k=.normal) (Bg:k'=.normal):lZ P S H p (Frame.enter P f xs k) (Frame.enter (ae P F) f cW k'):=by
 subst hk;subst Bg;unfold Frame.enter;rcases hc.body f hf with⟨h1,h2⟩|⟨fn,mv,c,c',h1,h2,h3,h4,h5,_,_,h6,_⟩
 .have uk:(ae P F).funcs[f]?=none:=h2;simp only[h1,uk,Option.map_none,Option.getD_none,Option.bind_none];rw[h.1];exact⟨rfl,hf,h.append (AR.replicate _ VR.undef),.cons (.code (.same rfl (.inl rfl))) .nil,.nil,.run,rfl,rfl,.none,.inl rfl,.inl ⟨rfl,rfl⟩,.inr λfn hf=>(by simp only at hf;rw[h1]at hf;cases hf),λ_=>iC.no λx hx=>by simp at hx;subst hx;rfl⟩
 .have uk:(ae P F).funcs[f]?=some mv:=h2;simp only[h1,uk,h3,h4,zBA,zAC,zDP];rw[h.1,h6]
  exact⟨rfl,hf,h.append (AR.replicate _ VR.undef),.cons (.code h5) .nil,.nil,.run,rfl,rfl,.none,.inl rfl,.inl ⟨rfl,rfl⟩,.inr λgn hg=>(by
   simp only at hg;rw[h1]at hg;cases hg;simp only[zEX,Array.size_replicate];have:=h.1;omega),λ_=>iC.no λx hx=>by simp at hx;subst hx;rfl⟩
def lZ.PJ {l l' f:Nat} (hn:∀a b,¬H f a b) (hl:p l l') (hf:S f=true) (h:AR S p xs cW) {b:Code} (ha:codeOk P S a=true) (hb:codeOk P S b=true):
 lZ P S H p (Frame.round l f xs a b .normal) (Frame.round l' f cW a b .normal):=
 ⟨rfl,hf,h,.cons (.code (.same ha (.inr hn))) (.cons .begin (.cons (.code (.same hb (.inr hn))) .nil)),.nil,.run,rfl,rfl,.some hl,.inr hn,.inr hn,.inl hn,λ_=>iC.no λx hx=>by have hx:x∈ [Item.code a,.beginRound,.code b]:=hx;simp at hx;rcases hx with rfl|rfl|rfl<;>rfl⟩
def pQ (l:Nat):∀(c:Code) {d:Code},dg c=true->findLabel c l=some d->dg d=true:=by
 intro c;induction c with
 |seq a b YR YS=>
  intro d hc hd;simp only[dg,zAE]at hc;simp only[findLabel]at hd;cases ha:findLabel a l with
  |some r=>rw[ha]at hd;simp only[zAA]at hd;subst hd;simp only[dg,zAE];exact⟨YR hc.1 ha,hc.2⟩
  |none=>rw[ha]at hd;exact YS hc.2 hd
 |label l'=>
  intro d hc hd;simp only[findLabel]at hd;split at hd
  .simp only[zAA]at hd;subst hd;rfl
  .cases hd
 |_=>intro d _ hd;cases hd
def EN {H:Code->Code->Prop} (id:Nat) (h:TL P S H p l l'):(exitTo id l=none/\exitTo id l'=none)\/∃k k',exitTo id l=some k/\exitTo id l'=some k'/\TL P S H p k k':=by
 induction h with
 |nil=>exact .inl ⟨rfl,rfl⟩
 |cons hi ht ih=>
  cases hi with
  |inBlock i=>
   simp only[exitTo];split
   .exact .inr ⟨_,_,rfl,rfl,ht⟩
   .exact ih
  |_=>exact ih
def zv (l:Nat):∀(c:Code) {d:Code},codeOk P S c=true->findLabel c l=some d->codeOk P S d=true:=by
 intro c;induction c with
 |seq a b YR YS=>
  intro d hc hd;simp only[codeOk,zAE]at hc;simp only[findLabel]at hd;cases ha:findLabel a l with
  |some r=>rw[ha]at hd;simp only[zAA]at hd;subst hd;simp only[codeOk,zAE];exact⟨YR hc.1 ha,hc.2⟩
  |none=>rw[ha]at hd;exact YS hc.2 hd
 |label l'=>
  intro d hc hd;simp only[findLabel]at hd;split at hd
  .simp only[zAA]at hd;subst hd;rfl
  .cases hd
 |_=>intro d _ hd;cases hd
def EO {H:Code->Code->Prop} (id:Nat) (h:TL P S H p l l'):(gotoIn id l=none/\gotoIn id l'=none)\/∃k k',gotoIn id l=some k/\gotoIn id l'=some k'/\TL P S H p k k':=by
 induction h with
 |nil=>exact .inl ⟨rfl,rfl⟩
 |cons hi ht ih=>
  cases hi with
  | @inScope c hc hr=>
    simp only[gotoIn];cases hd:findLabel c id with
    |some d=>exact .inr ⟨_,_,rfl,rfl,.cons (.code (.same (zv id c hc hd) (hr.imp (λx=>pQ id c x hd) λx=>x))) (.cons (.inScope hc hr) ht)⟩
    |none=>exact ih
  |_=>exact ih
def Je (id:Nat):∀{l k:List Item},(∀x∈l,iB x=true)->exitTo id l=some k->∀x∈k,iB x=true:=by
 intro l;induction l with
 |nil=>intro k _ h;cases h
 |cons it l ih=>
  intro k h e;have hl:∀x∈l,iB x=true:=λx hx=>h x (zAR _ hx);cases it<;>first|exact ih hl e|skip
  simp only[exitTo]at e;split at e
  .cases e;exact hl
  .exact ih hl e
def Jf (id:Nat):∀{l k:List Item},(∀x∈l,iB x=true)->gotoIn id l=some k->∀x∈k,iB x=true:=by
 intro l;induction l with
 |nil=>intro k _ h;cases h
 |cons it l ih=>
  intro k h e;have hl:∀x∈l,iB x=true:=λx hx=>h x (zAR _ hx);cases it<;>first|exact ih hl e|skip
  rename_i body;simp only[gotoIn]at e;cases hd:findLabel body id with
  |none=>rw[hd]at e;exact ih hl e
  |some r=>
   rw[hd]at e;cases e;intro x hx;rcases zAL.1 hx with rfl|hx
   .rfl
   .rcases zAL.1 hx with rfl|hx
    .rfl
    .exact hl x hx
def mG (S:Nat->Bool) (f:Frame):Prop:=
 f.mode=.run/\∃o ops i is k,f.todo=.inRegion ops (i::is)::k/\ops[i]?=some o/\gG S o.op=true/\Region.wanted o (yielded ops f.tmps)=true
def mG.UL {S:Nat->Bool} (h:mG S f):lg f:=by
 obtain⟨_,o,ops,i,is,k,h1,h2,h3,_⟩:=h;intro o2 ho;unfold Frame.oper? at ho;rw[h1]at ho;simp only at ho;rw[h2]at ho;cases ho;cases hx:o.op<;>rw[hx]at h3<;>first|rfl|cases h3
def sj (ops:Array Oper) {ys:Array fu} (h:AR S p xs ys) (j:Nat):yielded ops xs j=yielded ops ys j:=by
 unfold yielded;cases((ops[j]?).bind (·.dst))with
 |none=>rfl
 |some d=>
  simp only[zDP];cases hx:xs[d]? with
  |none=>rw[h.none hx]
  |some v=>
   obtain⟨v',qY,hr⟩:=h.get hx;rw[qY];cases hr with
   |qX _ hj h=>cases v'<;>first|rfl|cases h
   |_=>rfl
def mem_seen {P:un} {fn:FuncId} {e:Event} (h:e∈seen P fn es):e∈es:=by
 have key:∀(quiet:FuncId->Bool) (l:List Event) (q:Bool) (kept:Array Event),e∈(l.foldl (λ(x:Bool×Array Event) (e:Event)=>match x with
  |(q,kept)=>match e.loc with
   |.mark (.extern f)=>(quiet f,kept)
   |_=>(q,if q&&!e.sync then kept else kept.push e)) (q,kept)).2->e∈kept\/e∈l:=by
  intro quiet l;induction l with
  |nil=>intro q kept h;exact .inl h
  |cons x l ih=>
   intro q kept h;rw[zDA]at h
   generalize hy:(match(q,kept)with
    |(q,kept)=>match x.loc with
     |.mark (.extern f)=>(quiet f,kept)
     |_=>(q,if q&&!x.sync then kept else kept.push x))=y at h
   obtain⟨q',k'⟩:=y
   have hk:e∈k'->e∈kept\/e=x:=by
    intro he;simp only at hy;split at hy
    .rw[zAH]at hy;rw[hy.2];exact .inl he
    .rw[zAH]at hy;rw[<-hy.2]at he;split at he
     .exact .inl he
     .exact Array.mem_push.1 he
   rcases ih q' k' h with h|h
   .exact(hk h).imp id λh=>by simp[h]
   .exact .inr (by simp[h])
 unfold seen at h;dsimp only at h;rw[<-zEV]at h;have:=key _ _ _ _ h;simpa using this
end
def gw:GStep->nq
 |.go _ w _=>w
 |.comm _ _ _ _ w _=>w
 |.spawn _ _ w _=>w
 |.count _ w _=>w
 |.timer _ _ w _=>w
 |.alone _ _ w _=>w
 |.newcoro _ _ _ w _=>w
 |.coroswitch _ _ _ w _=>w
 |.collect _ w _=>w
 |.watch _ w _=>w
 |.ended _ w _=>w
@[simp] theorem kA (es:Array Event) (s:GStep):gw (GStep.after es s)=gw s:=by cases s <;> rfl
def Jg (P:un) (s:Sem α) (w:nq):w.drawn<=(world (s.run P w)).drawn:=by
 have:=oE P s w #[];rw[Sem.runT_fst]at this;exact this
def mH {P:un} {s:Sem α} {w:nq} {r:Result α} (h:s.run P w=r):w.drawn<=(world r).drawn:=h▸Jg P s w
def uq (P:un) (fr:Frame) (cs:List Frame) (d:Option Dying) (m:String) (w:nq):w.drawn<=(gw (endFatal P fr cs d m w)).drawn:=by
 unfold endFatal;dsimp only;split
 .rename_i h;exact mH h
 .rename_i h;exact mH h
 .rename_i h;exact mH h
def BK (P:un) (fr:Frame) (cs:List Frame) (d:Option Dying) (g:Nat) (w:nq):w.drawn<=(gw (early P fr cs d g w)).drawn:=by
 unfold early;dsimp only;repeat' split
 all_goals first
  |exact zAB _
  |(have hx:=mH (by assumption:Sem.run P (choose (Question.early g)) w=Result.ok _ _);exact hx)
  |(have hx:=mH (by assumption:Sem.run P (choose (Question.early g)) w=Result.halt _ _);exact hx)
def sk (P:un) (fr:Frame) (cs:List Frame) (d:Option Dying) (s:Sem Next) (w:nq):(world (s.runT P w #[]).1).drawn<=(gw (stepG.apply P true fr cs d s w)).drawn:=by
 unfold stepG.apply;simp only[zBV];generalize s.runT P w #[]=x;obtain⟨r,es⟩:=x;simp only[kA];split;all_goals(try exact zAB _)
 all_goals(try(split<;>exact zAB _))
 all_goals first
  |exact uq ..
  |exact BK ..
  |(split<;>split<;>exact zAB _)
section
variable (P:un) (S:Nat->Bool) (H:FuncId->Code->Code->Prop) (N:Nat)
def dH (p:Pi) (w w':nq) (b:Frame) (bs:List Frame) (aZ:List Frame) (s s':GStep):Prop:=
 (∃o w1 es,s=.ended o w1 es)\/(∃q ch XN w1 es,CL S q ch XN/\s=.go {frame:=b.raise ch,callers:=bs,status:=.running,dying:=none} w1 es)\/
 ∃c n w1 gY es dk,cQ P S (KS P S) N p w w' c n w1 gY/\(∀e∈dk,OP N (ext p w.heap.size w'.heap.size c) e)/\
  ((∃f f' top dL,FL P S H (ext p w.heap.size w'.heap.size c) (f::top) (f'::dL)/\
     s=.go {frame:=f,callers:=top++b::bs,status:=.running,dying:=none} w1 es/\
     s'=.go {frame:=f',callers:=dL++aZ,status:=.running,dying:=none} gY dk)\/
   (∃v v',VR S (ext p w.heap.size w'.heap.size c) v v'/\
     s=.go {frame:=b.finish v,callers:=bs,status:=.running,dying:=none} w1 es/\
     ((∃b' zx,aZ=b'::zx/\s'=.go {frame:=b'.finish v',callers:=zx,status:=.running,dying:=none} gY dk)\/
      (aZ=[]/\s'=.ended (.done v') gY dk))))
end
section
variable {P:un} {F:Array Func} {S:Nat->Bool} {H:FuncId->Code->Code->Prop} {N:Nat} {p:Pi} {w w':nq} {b:Frame} {bs:List Frame} {aZ:List Frame}
def dH.ended (o:Outcome) (w1:nq) (es:Array Event):dH P S H N p w w' b bs aZ (.ended o w1 es) s':=.inl ⟨o,w1,es,rfl⟩
def dH.go (h:WR P S (KS P S) N p w w') {top:List Frame} (hf:FL P S H p (f::top) (f'::dL)):
 dH P S H N p w w' b bs aZ (.go {frame:=f,callers:=top++b::bs,status:=.running,dying:=none} w) (.go {frame:=f',callers:=dL++aZ,status:=.running,dying:=none} w'):=
 .inr (.inr ⟨0,0,w,w',#[],#[],cQ.refl h,by simp,.inl ⟨f,f',top,dL,by rw[bN];exact hf,rfl,rfl⟩⟩)
def dH.ret (h:WR P S (KS P S) N p w w') (hv:VR S p v v') (b':Frame) (zx:List Frame):
 dH P S H N p w w' b bs (b'::zx) (.go {frame:=b.finish v,callers:=bs,status:=.running,dying:=none} w) (.go {frame:=b'.finish v',callers:=zx,status:=.running,dying:=none} w'):=
 .inr (.inr ⟨0,0,w,w',#[],#[],cQ.refl h,by simp,.inr ⟨v,v',by rw[bN];exact hv,rfl,.inl ⟨b',zx,rfl,rfl⟩⟩⟩)
def dH.PK (h:WR P S (KS P S) N p w w') (hv:VR S p v v'):
 dH P S H N p w w' b bs [] (.go {frame:=b.finish v,callers:=bs,status:=.running,dying:=none} w) (.ended (.done v') w'):=
 .inr (.inr ⟨0,0,w,w',#[],#[],cQ.refl h,by simp,.inr ⟨v,v',by rw[bN];exact hv,rfl,.inr ⟨rfl,rfl⟩⟩⟩)
def dH.raised {q:Pi} {v v':List PanicEntry} (h:CL S q v v') (w1:nq) (es:Array Event):
 dH P S H N p w w' b bs aZ (.go {frame:=b.raise v,callers:=bs,status:=.running,dying:=none} w1 es) s':=.inr (.inl ⟨q,v,v',w1,es,h,rfl⟩)
def dH.trans (hm:cQ P S (KS P S) N p w w' c n w1 gY) {dk:Array Event} (he:∀e∈dk,OP N (ext p w.heap.size w'.heap.size c) e) {s:GStep}
 (h:dH P S H N (ext p w.heap.size w'.heap.size c) w1 gY b bs aZ s s'):dH P S H N p w w' b bs aZ (s.after es) (s'.after dk):=by
 rcases h with⟨o,w2,es2,rfl⟩|⟨q,ch,XN,w2,es2,G9,rfl⟩|⟨c2,n2,w2,Po,fs,fs',k1,k2,k3⟩
 .exact .inl ⟨o,w2,_,rfl⟩
 .exact .inr (.inl ⟨q,ch,XN,w2,_,G9,rfl⟩)
 .rw[hm.size,hm.my,pD]at k2 k3;refine .inr (.inr ⟨c+c2,n+n2,w2,Po,es++fs,dk++fs',hm.trans k1,λx hx=>?_,?_⟩)
  .rcases zER.1 hx with hx|hx
   .refine(he x hx).mono ?_;rw[<-pD];exact fG _ _ _ _
   .exact k2 x hx
  .rcases k3 with⟨f,f',top,dL,x1,rfl,rfl⟩|⟨v,v',x1,rfl,⟨b',zx,x2,rfl⟩|⟨x2,rfl⟩⟩
   .exact .inl ⟨f,f',top,dL,x1,rfl,rfl⟩
   .exact .inr ⟨v,v',x1,rfl,.inl ⟨b',zx,x2,rfl⟩⟩
   .exact .inr ⟨v,v',x1,rfl,.inr ⟨x2,rfl⟩⟩
def lS (m:Nat) (w w':nq):Prop:=∀j,j<m->∀q,w.tape (w.drawn+j) q=w'.tape (w'.drawn+j) q
def lS.YT (h:lS m w w') (hm:cQ P S (KS P S) N p w w' c n w1 gY):lS (m-n) w1 gY:=by
 intro j hj q;have:=h (n+j) (by omega) q;rw[hm.tape,hm.GV,hm.drawn,hm.mz,zBD,zBD];exact this
def dH.run {Q:Pi->α->β->Prop} {s:Sem α} {s':Sem β} (h:SR P F S (KS P S) N Q s s' p) (hw:WR P S (KS P S) N p w w') (hm:lS m w w')
 {ev:Result α->Array Event->Array Event} {UM:Result β->Array Event->Array Event} (bt:∀r es e,e∈UM r es->e∈es)
 {k:Result α->GStep} {k':Result β->GStep} (hd:(gw (k' (s'.runT (ae P F) w' #[]).1)).drawn<=w'.drawn+m) (hk:∀r,(world r).drawn<=(gw (k' r)).drawn)
 (YU:∀x w1,dead x->∃o w2 es,k (.halt x w1)=.ended o w2 es)
 (j6:∀c n w1 gY x y,cQ P S (KS P S) N p w w' c n w1 gY->Q (ext p w.heap.size w'.heap.size c) x y->lS (m-n) w1 gY->(gw (k' (.ok y gY))).drawn<=gY.drawn+(m-n)->
   dH P S H N (ext p w.heap.size w'.heap.size c) w1 gY b bs aZ (k (.ok x w1)) (k' (.ok y gY)))
 (UN:∀c n w1 gY v v',cQ P S (KS P S) N p w w' c n w1 gY->VR S (ext p w.heap.size w'.heap.size c) v v'->
   dH P S H N (ext p w.heap.size w'.heap.size c) w1 gY b bs aZ (k (.halt (.panic v) w1)) (k' (.halt (.panic v') gY))):
 dH P S H N p w w' b bs aZ (GStep.after (ev (s.runT P w #[]).1 (s.runT P w #[]).2) (k (s.runT P w #[]).1)) (GStep.after (UM (s'.runT (ae P F) w' #[]).1 (s'.runT (ae P F) w' #[]).2) (k' (s'.runT (ae P F) w' #[]).1)):=by
 have ho:=SR.sound h w w' #[] #[] m hw hm (zAP (hk _) hd);rcases ho with⟨x,w1,es1,e,hx⟩|⟨c,n,w1,gY,es1,fs,k1,k2,⟨x,y,e,e',hq⟩|⟨v,v',e,e',hv⟩⟩
 .rw[e];obtain⟨o,w2,es,e2⟩:=YU x w1 hx;simp only[e2];exact .inl ⟨o,w2,_,rfl⟩
 .rw[e']at hd;simp only at hd;have hwd:(world (.ok y gY:Result β)).drawn<=w'.drawn+m:=zAP (hk _) hd;simp only[world]at hwd;rw[k1.mz]at hwd;rw[e,e'];simp only[zDR];refine dH.trans k1 (λz hz=>k2 z (bt _ _ _ hz)) (j6 c n w1 gY x y k1 hq (hm.YT k1) ?_);rw[k1.mz];omega
 .rw[e,e'];simp only[zDR];exact dH.trans k1 (λz hz=>k2 z (bt _ _ _ hz)) (UN c n w1 gY v v' k1 hv)
end
section
variable {P:un} {F:Array Func} {S:Nat->Bool} {K:Kz} {N:Nat} {p:Pi}
structure SW (S:Nat->Bool) (K:Kz) (p:Pi) (l l':Loop):Prop where
 h1:l.state=l'.state
 h2:l.pending=l'.pending
 h3:l.fn=l'.fn
 h4:AR S p l.tmps l'.tmps
 h5:l.params=l'.params
 h6:l.assign=l'.assign
 h7:l.body=l'.body
 h8:p l.defers l'.defers
 k1:S l.fn=true
 k2:K l.assign
 k3:K l.body
 k4:∀c,l.pending=some c->K c
 k5:K (.label (100000+l.fn))
def SW.or {l l':Loop} (x:SW S K p l l'):OR S K p (.loop l) (.loop l'):=.loop x.h1 x.h2 x.h3 x.h4 x.h5 x.h6 x.h7 x.h8 x.k1 x.k2 x.k3 x.k4 x.k5
def SR.getLoop (h:p r r'):SR P F S K N (λq l l'=>SW S K q l l') (Instr.getLoop r) (Instr.getLoop r') p:=by
 unfold Instr.getLoop;refine(SR.getObj h).bind λq o o' hq ho=>?_;cases ho<;>first|exact SR.stuck|skip
 rename_i h1 h2 h3 h4 h5 h6 h7 h8 k1 k2 k3 k4 k5;exact SR.pure ⟨h1,h2,h3,h4,h5,h6,h7,h8,k1,k2,k3,k4,k5⟩
def SR.enterLoop {f f':Nat} (XO:f=f') (hf:S f=true) (hz:K (.label (100000+f))) (hx:AR S p xs cW) (ps:Array Tmp) {c:Code} (ha:K a) (hc:K c) {o o':Option Nat} (ho:RR p o o'):
 SR P F S K N (λq x y=>q x.1 y.1/\DL q x.2 y.2) (Instr.enterLoop f xs ps a c o) (Instr.enterLoop f' cW ps a c o') p:=by
 subst XO;unfold Instr.enterLoop;cases ho with
 |none=>
  simp only[bind_assoc,pure_bind];refine(SR.newObj .eK λ_ _ _ _ _ _ _ a=>by cases a).bind λq r r' hq hr=>?_;refine(SR.newObj (SW.or (l:={state:=.ready,pending:=none,fn:=f,tmps:=xs,params:=ps,assign:=a,body:=c,defers:=r}) (l':={state:=.ready,pending:=none,fn:=f,tmps:=cW,params:=ps,assign:=a,body:=c,defers:=r'}) ⟨rfl,rfl,rfl,hx.mono hq,rfl,rfl,rfl,hr.1,hf,ha,hc,λc h=>(by cases h),hz⟩) λ_ _ _ _ _ _ _ a=>by cases a).bind λq2 s s' cR hs=>?_;exact SR.pure ⟨hs.1,.cons (cR _ _ hr.1) .nil⟩
 |some h=>
  simp only[bind_assoc,pure_bind];refine(SR.getLoop h).bind λq r r' hq hr=>?_;refine(SR.newObj (SW.or (l:={state:=.ready,pending:=none,fn:=f,tmps:=xs,params:=ps,assign:=a,body:=c,defers:=r.defers}) (l':={state:=.ready,pending:=none,fn:=f,tmps:=cW,params:=ps,assign:=a,body:=c,defers:=r'.defers}) ⟨rfl,rfl,rfl,hx.mono hq,rfl,rfl,rfl,hr.h8,hf,ha,hc,λc h=>(by cases h),hz⟩) λ_ _ _ _ _ _ _ a=>by cases a).bind λq2 s s' cR hs=>?_;exact SR.pure ⟨hs.1,.nil⟩
def SR.beginRound (h:p r r'):SR P F S K N (QE Unit) (Instr.beginRound r) (Instr.beginRound r') p:=by
 unfold Instr.beginRound;refine(SR.getLoop h).bind λq l l' hq hl=>?_;refine(SR.setObj (hq _ _ h) (SW.or (l:={l with state:=.busy}) (l':={l' with state:=.busy}) ⟨rfl,hl.h2,hl.h3,hl.h4,hl.h5,hl.h6,hl.h7,hl.h8,hl.k1,hl.k2,hl.k3,hl.k4,hl.k5⟩) λ_ _ _ _ _ _ _ a=>by cases a).aD λq2 _ cR=>?_;rw[<-hl.h1];cases l.state with
 |ready=>exact SR.pure rfl
 |done=>exact SR.err _
 |busy=>exact SR.err _
 |exhausted=>exact SR.err _
def SR.endRound (h:p r r') (j:Option Code) (hj:∀c,j=some c->K c):SR P F S K N (QV S) (Instr.endRound r j) (Instr.endRound r' j) p:=by
 unfold Instr.endRound;refine(SR.getLoop h).bind λq l l' hq hl=>?_;refine(SR.setObj (hq _ _ h) (SW.or (l:={l with state:=if j.isNone then .ready else .done,pending:=j}) (l':={l' with state:=if j.isNone then .ready else .done,pending:=j}) ⟨rfl,rfl,hl.h3,hl.h4,hl.h5,hl.h6,hl.h7,hl.h8,hl.k1,hl.k2,hl.k3,hj,hl.k5⟩) λ_ _ _ _ _ _ _ a=>by cases a).aD λq2 _ cR=>?_;exact SR.pure (VR.plain 2 _ rfl)
def SR.endLoop (h:p r r'):SR P F S K N (λ_ a b=>a=b/\∀c,a=some c->K c) (Instr.endLoop r) (Instr.endLoop r') p:=by
 unfold Instr.endLoop;refine(SR.getLoop h).bind λq l l' hq hl=>?_;rw[<-hl.h1]
 have tail:∀q2,Le q q2->SR P F S K N (λ_ a b=>a=b/\∀c,a=some c->K c) (Go.setObj r (.loop {l with state:=.exhausted})>>=λ_=>(Pure.pure l.pending:Sem (Option Code))) (Go.setObj r' (.loop {l' with state:=.exhausted})>>=λ_=>(Pure.pure l'.pending:Sem (Option Code))) q2:=λq2 cR=>by
  refine(SR.setObj (cR _ _ (hq _ _ h)) (SW.or (l:={l with state:=.exhausted}) (l':={l' with state:=.exhausted}) ⟨rfl,hl.h2,hl.h3,hl.h4.mono cR,hl.h5,hl.h6,hl.h7,cR _ _ hl.h8,hl.k1,hl.k2,hl.k3,hl.k4,hl.k5⟩) λ_ _ _ _ _ _ _ a=>by cases a).aD λq3 _ ip=>?_;exact SR.pure ⟨hl.h2,hl.k4⟩
 split
 .exact(SR.err (α:=PUnit) (β:=PUnit) (Q:=QE PUnit) _).aD λq2 _ cR=>tail q2 cR
 .exact tail q (Le.refl q)
def SR.takeDeferred (h:p r r'):SR P F S K N (λ_ a b=>a=[]/\b=[]) (Instr.takeDeferred r) (Instr.takeDeferred r') p:=by
 unfold Instr.takeDeferred;refine(SR.getObj h).bind λq o o' hq ho=>?_;cases ho<;>first|exact SR.stuck|skip
 refine(SR.setObj (hq _ _ h) .eJ λ_ _ _ _ _ _ _ a=>by cases a).aD λq2 _ cR=>?_;exact SR.pure ⟨rfl,rfl⟩
def SR.YV (f f':α->Sem fu):∀(l:List α) {p:Pi} {acc EC:Array fu},(∀x q,Le p q->SR P F S K N (QV S) (f x) (f' x) q)->AR S p acc EC->
 SR P F S K N (QA S) (l.foldlM (λbs a=>Functor.map bs.push (f a)) acc) (l.foldlM (λbs a=>Functor.map bs.push (f' a)) EC) p:=by
 intro l;induction l with
 |nil=>intro p acc EC _ ha;exact SR.pure ha
 |cons x l ih=>
  intro p acc EC h ha;simp only[zFW];refine SR.bind (Q:=QA S) ?_ λq a b hq pH=>ih (λy q2 cR=>h y q2 (hq.trans cR)) pH;exact(h x p (Le.refl p)).bind λq b b' hq hb=>SR.pure ((ha.mono hq).push hb)
def SR.results {fn mv:Func} (hr:fn.results=mv.results) (h:AR S p xs cW):SR P F S K N (QV S) (Go.results fn xs) (Go.results mv cW) p:=by
 unfold Go.results;rw[<-hr];refine SR.bind (Q:=QA S) ?_ λq vs SS hq hv=>?_
 .rw[zEM,<-zFI,zEM,<-zFI];refine SR.YV _ _ _ (λx q hq=>?_) AR.empty;cases x with
  |tmp t=>exact SR.pure ((h.mono hq).getD t VR.undef)
  |cell a t=>exact(SR.asAddr ((h.mono hq).getD a VR.undef)).bind λq2 a a' cR ha=>SR.loadVar t ha
 .refine SR.pure ?_;have:=hv.1;by_cases h1:vs.size=1
  .have BF:SS.size=1:=by omega
   simp only[h1,BF,dif_pos];exact hv.2 0 _ _ (by simp[h1]) (by simp[BF])
  .have BF:SS.size≠1:=by omega
   simp only[h1,BF,dif_neg,not_false_eq_true];exact hv.tuple
end
section
variable {P:un} {F:Array Func} {S:Nat->Bool} {H:FuncId->Code->Code->Prop} {N:Nat} {p:Pi} {w w':nq} {b:Frame} {bs:List Frame} {aZ:List Frame}
def PM {f:Nat} (h:KS P S (.label (100000+f))):S (P.funcs.size+P.globals.size+1+f)=false:=by
 have h:(decide (100000+f<100000)||!S (P.funcs.size+P.globals.size+1+(100000+f-100000)))=true:=h;rw[zCT,zDV (by omega),zEB]at h;simpa using h
def PN {f:Nat} (h:S (P.funcs.size+P.globals.size+1+f)=false):KS P S (.label (100000+f)):=by
 show(decide (100000+f<100000)||!S (P.funcs.size+P.globals.size+1+(100000+f-100000)))=true;rw[zCT,h];simp
def TL.kind {H:Code->Code->Prop} (h:TL P S H p l l'):(match l with|.call _ true _ _::_=>CallKind.wrapped|_=>CallKind.normal)=.normal/\(match l' with|.call _ true _ _::_=>CallKind.wrapped|_=>CallKind.normal)=.normal:=by
 cases h with
 |nil=>exact⟨rfl,rfl⟩
 |cons hi ht=>cases hi<;>exact⟨rfl,rfl⟩
def FL.head (h:FL P S H p (f::t) (f'::t')):lZ P S H p f f':=by
 cases h with
 |one h=>exact h
 |cons h _ _=>exact h
def FL.top {g':Frame} (h:FL P S H p (f::t) (f'::t')) (hg:lZ P S H p g g') (hr:g.roundOf=f.roundOf/\g.fn=f.fn):FL P S H p (g::t) (g'::t'):=by
 cases h with
 |one h r=>exact .one hg ⟨hr.1.trans r.1,by rw[hr.2];exact r.2⟩
 |cons h t BH=>exact .cons hg t BH
def ei (f:Frame) (v:fu):(f.finish v).roundOf=f.roundOf/\(f.finish v).fn=f.fn:=by
 unfold Frame.finish;split<;>exact⟨rfl,rfl⟩
def jH (f:Frame) (v:List PanicEntry):(f.raise v).roundOf=f.roundOf/\(f.raise v).fn=f.fn:=by
 unfold Frame.raise;split<;>exact⟨rfl,rfl⟩
def EP (P:un) (f:Frame):Next->Prop
 |.value v=>∀o,f.oper?=some o->pO P o v
 |.skip=>True
 |_=>lg f
def EP.no {P:un} (h:f.oper?=none) (x:Next):EP P f x:=by
 unfold EP lg;split
 .intro o ho;rw[h]at ho;cases ho
 .trivial
 .intro o ho;rw[h]at ho;cases ho
def dH.apply (hc:Closed P F S H) (hw:WR P S (KS P S) N p w w') {top:List Frame} (hf:FL P S H p (f::top) (f'::dL)) (hm:lS m w w')
 {s s':Sem Next} (hs:SR P F S (KS P S) N (QX S (KS P S)) s s' p) (hd:(gw (stepG.apply (ae P F) true f' (dL++aZ) none s' w')).drawn<=w'.drawn+m) (hx:S JK=true->∀es x w1 es1,s.runT P w es=(.ok x w1,es1)->EP P f x):
 dH P S H N p w w' b bs aZ (stepG.apply P true f (top++b::bs) none s w) (stepG.apply (ae P F) true f' (dL++aZ) none s' w'):=by
 have ho:=SR.sound hs w w' #[] #[] m hw hm (zAP (sk ..) hd);have gq:=hf.head;have hk:=gq.todo.kind;have YW:(f'.kind==CallKind.early)=false:=by rw[gq.lQ];rfl
 rcases ho with⟨x,w1,es1,e,SQ⟩|⟨c,n,w1,gY,es1,fs,k1,k2,⟨x,y,e,e',hq⟩|⟨v,v',e,e',hv⟩⟩
 .cases x with
  |stuck why=>exact .inl ⟨_,_,_,by simp only[stepG.apply,zBV,e];rfl⟩
  |unsupported u=>cases u<;>first|exact absurd SQ id|exact .inl ⟨_,_,_,by simp only[stepG.apply,zBV,e];rfl⟩
  |_=>exact absurd SQ id
 .rw[zDR]at e';have hle:=fG p w.heap.size w'.heap.size c;have bt:∀z∈seen (ae P F) f'.fn fs,OP N (ext p w.heap.size w'.heap.size c) z:=λz hz=>k2 z (mem_seen hz);have En:=hf.mono hle;cases hq with
  | @value v v' h=>
    have t:=dH.trans (b:=b) (bs:=bs) (aZ:=aZ) k1 (es:=seen P f.fn (if f.kind==CallKind.early then #[]else es1)) bt (dH.go k1.rel (En.top (En.head.finish h λhj=>hx hj _ _ _ _ e) (ei f v)));simpa only[stepG.apply,zBV,e,e',YW,zAN,zBJ,GStep.after]using t
  |skip=>
   have t:=dH.trans (b:=b) (bs:=bs) (aZ:=aZ) k1 (es:=seen P f.fn (if f.kind==CallKind.early then #[]else es1)) bt (dH.go k1.rel (En.top (En.head.finish VR.undef λ_ o _ n _=>oI n) (ei f _)));simpa only[stepG.apply,zBV,e,e',YW,zAN,zBJ,GStep.after]using t
  | @enter g xs cW hg h=>
    have t:=dH.trans (b:=b) (bs:=bs) (aZ:=aZ) k1 (es:=seen P f.fn (if f.kind==CallKind.early then #[]else es1)) bt (dH.go k1.rel (FL.cons (lZ.enter hc hg h hk.1 hk.2) En λhj g hg=>by cases hg;exact hx hj _ _ _ _ e));simp only[stepG.apply,zBV,e,e',YW,zAN,zBJ,GStep.after];exact t
  | @round l l' g xs cW a1 a2 hl hg h h1 h2 hz=>
    have hn:∀a b,¬H g a b:=(hc.Bf g hg).2 (PM hz);have t:=dH.trans (b:=b) (bs:=bs) (aZ:=aZ) k1 (es:=seen P f.fn (if f.kind==CallKind.early then #[]else es1)) bt (dH.go k1.rel (FL.cons (lZ.PJ hn hl hg h h1 h2) En λhj g hg=>by cases hg;exact hx hj _ _ _ _ e));simpa only[stepG.apply,zBV,e,e',YW,zAN,zBJ,GStep.after,zDG]using t
 .rw[zDR]at e';have hle:=fG p w.heap.size w'.heap.size c;have bt:∀z∈seen (ae P F) f'.fn fs,OP N (ext p w.heap.size w'.heap.size c) z:=λz hz=>k2 z (mem_seen hz);have En:=hf.mono hle;have t:=dH.trans (b:=b) (bs:=bs) (aZ:=aZ) k1 (es:=seen P f.fn (if f.kind==CallKind.early then #[]else es1)) bt (dH.go k1.rel (En.top (En.head.raise (.cons false false hv .nil)) (jH f _)));simpa only[stepG.apply,zBV,e,e',YW,zAN,zBJ,GStep.after]using t
end
section
variable {P:un} {F:Array Func} {S:Nat->Bool} {H:FuncId->Code->Code->Prop} {N:Nat} {p:Pi} {w w':nq} {b:Frame} {bs:List Frame} {aZ:List Frame}
def UO (P:un) (S:Nat->Bool) (main':Bool) (aZ:List Frame):Prop:=aZ=[]->main'=true/\∀f,S f=true->P.inits.idxOf? f=none
def dH.doReturn (hw:WR P S (KS P S) N p w w') {top:List Frame} (hf:FL P S H p (f::top) (f'::dL)) (main main':Bool) (hb:UO P S main' aZ) (hv:VR S p v v'):
 dH P S H N p w w' b bs aZ (Go.doReturn P main f (top++b::bs) none v w) (Go.doReturn (ae P F) main' f' (dL++aZ) none v' w'):=by
 have h1:=hf.head.kind;have h2:=hf.head.lQ;have h3:=hf.head.fn;have h4:=hf.head.SV;cases hf with
 |one h r=>
  cases aZ with
  |nil=>
   obtain⟨rfl,eQ⟩:=hb rfl;have hi:(ae P F).inits.idxOf? f'.fn=none:=by rw[<-h3];exact eQ _ h4
   unfold Go.doReturn;simp only[h1,h2,zDW,hi];exact dH.PK hw hv
  |cons b' zx=>unfold Go.doReturn;rw[h1,h2];exact dH.ret hw hv b' zx
 |cons h t BH=>
  unfold Go.doReturn;rw[h1,h2];cases t with
  |one h r=>exact dH.go hw (.one (h.finish hv λhj=>(BH hj _ rfl).fits _) ⟨(ei _ _).1.trans r.1,by rw[(ei _ _).2];exact r.2⟩)
  |cons h t LM=>exact dH.go hw (.cons (h.finish hv λhj=>(BH hj _ rfl).fits _) t LM)
def zy:Option Code->Bool
 |none=>true
 |some .ret=>true
 |_=>false
def iQ (P:un) (main:Bool) (fr:Frame) (callers:List Frame) (jump:Option Code) (w:nq):GStep:=
 match fr.roundOf with
 |none=>if zy jump then .go {frame:={fr with mode:=.returning},callers,status:=.running,dying:=none} w else .ended (.stuck "exit, goto: no such block or label" (fr.pos P)) w
 |some l=>
  GStep.after (seen P fr.fn ((Instr.endRound l jump).runT P w #[]).2)<|match((Instr.endRound l jump).runT P w #[]).1 with
  |.ok v w=>Go.doReturn P main fr callers none v w
  |.halt _ w=>.ended (.stuck "range over a function: no such loop" (fr.pos P)) w
def mI (main:Bool) (f:Frame) (cs:List Frame) (hk:f.kind=.normal) (v:fu) (w:nq):gw (Go.doReturn P main f cs none v w)=w:=by
 unfold Go.doReturn;rw[hk];cases cs with
 |nil=>
  simp only;split
  .rfl
  .split<;>rfl
 |cons c cs=>rfl
def jI (main:Bool) (h:f.roundOf=none) (cs:List Frame) (jump:Option Code) (w:nq):
 iQ P main f cs jump w=if zy jump then .go {frame:={f with mode:=.returning},callers:=cs,status:=.running,dying:=none} w else .ended (.stuck "exit, goto: no such block or label" (f.pos P)) w:=by
 unfold iQ;split
 .rfl
 .rename_i h2;rw[h]at h2;cases h2
def jJ (main:Bool) {l:Nat} (h:f.roundOf=some l) (cs:List Frame) (jump:Option Code) (w:nq):
 iQ P main f cs jump w=GStep.after (seen P f.fn ((Instr.endRound l jump).runT P w #[]).2) (match((Instr.endRound l jump).runT P w #[]).1 with
 |.ok v w=>Go.doReturn P main f cs none v w
 |.halt _ w=>.ended (.stuck "range over a function: no such loop" (f.pos P)) w):=by
 unfold iQ;split
 .rename_i h2;rw[h]at h2;cases h2
 .rename_i h2;rw[h]at h2;cases h2;rfl
def LN {x y:Option Nat} (h:RR p x y):(x=none/\y=none)\/∃l l',x=some l/\y=some l'/\p l l':=by
 cases h with
 |none=>exact .inl ⟨rfl,rfl⟩
 |some h=>exact .inr ⟨_,_,rfl,rfl,h⟩
def dH.leave (hw:WR P S (KS P S) N p w w') {top:List Frame} (hf:FL P S H p (f::top) (f'::dL)) (main main':Bool) (hb:UO P S main' aZ) (jump:Option Code) (hj:∀c,jump=some c->codeOk P S c=true)
 (hm:lS m w w') (hd:(gw (iQ (ae P F) main' f' (dL++aZ) jump w')).drawn<=w'.drawn+m):
 dH P S H N p w w' b bs aZ (iQ P main f (top++b::bs) jump w) (iQ (ae P F) main' f' (dL++aZ) jump w'):=by
 have gq:=hf.head;rcases LN gq.round with⟨h1,h2⟩|⟨l,l',h1,h2,hl⟩
 .rw[jI main h1,jI main' h2];cases hj:zy jump with
  |true=>exact dH.go hw (hf.top (g:={f with mode:=.returning}) (g':={f' with mode:=.returning}) ⟨gq.fn,gq.SV,gq.tmps,gq.todo,gq.defers,.returning,gq.kind,gq.lQ,gq.round,gq.Bf,gq.nd,gq.wide,gq.PH⟩ ⟨rfl,rfl⟩)
  |false=>exact dH.ended ..
 .rw[jJ main' h2]at hd;rw[jJ main h1,jJ main' h2];rw[kA]at hd
  refine dH.run (SR.endRound hl jump hj) hw hm (ev:=λr es=>seen P f.fn es) (UM:=λr es=>seen (ae P F) f'.fn es) (λr es e he=>mem_seen he)
   (k:=fun r=>match r with|.ok v w=>Go.doReturn P main f (top++b::bs) none v w|.halt _ w=>.ended (.stuck "range over a function: no such loop" (f.pos P)) w)
   (k':=fun r=>match r with|.ok v w=>Go.doReturn (ae P F) main' f' (dL++aZ) none v w|.halt _ w=>.ended (.stuck "range over a function: no such loop" (f'.pos (ae P F))) w)
   hd ?_ ?_ ?_ ?_
  .intro r;cases r with
   |ok v w=>simp only;rw[mI _ _ _ gq.lQ];exact zAB _
   |halt=>exact zAB _
  .intro x w1 _;exact⟨_,_,_,rfl⟩
  .intro c n w1 gY x y th hv _ _;exact dH.doReturn th.rel (hf.mono (fG _ _ _ _)) main main' hb hv
  .intro c n w1 gY v v' th hv;exact dH.ended ..
def lZ.mk' (h:lZ P S H p f f') (hl:TL P S (H f.fn) p l l') {ds oe:List Deferred} (hd:DL p ds oe) (Jh:(ds=[]/\oe=[])\/∀a b,¬H f.fn a b) (hr:S JK=true->iC P f.tmps l):lZ P S H p {f with todo:=l,defers:=ds} {f' with todo:=l',defers:=oe}:=
 ⟨h.fn,h.SV,h.tmps,hl,hd,h.mode,h.kind,h.lQ,h.round,h.Bf,Jh,h.wide,hr⟩
def DL.append {l l' m m':List Deferred} (h:DL p l l') (k:DL p m m'):DL p (l++m) (l'++m'):=by
 induction h with
 |nil=>exact k
 |cons g _ ih=>exact .cons g ih
end
def WR.no {P:un} {S:Nat->Bool} {K:Kz} {N:Nat} {p:Pi} {w w':nq} (h:WR P S K N p w w') {a:Prop} (x:p.l=true):a:=by rw[h.str]at x;cases x
section
variable {P:un} {F:Array Func} {S:Nat->Bool} {H:FuncId->Code->Code->Prop} {N:Nat} {p:Pi} {w w':nq} {b:Frame} {bs:List Frame} {aZ:List Frame}
def eX (main:Bool) (h:f.todo=[]) (cs:List Frame) (w:nq):stepG.exec P main true f cs none w=iQ P main f cs none w:=by
 obtain⟨fn,tmps,todo,ds,mode,kind,ro⟩:=f;simp only at h;subst h;cases ro<;>rfl
def eY (main:Bool) (h:f.todo=.code .ret::k) (cs:List Frame) (w:nq):stepG.exec P main true f cs none w=iQ P main f cs (some .ret) w:=by
 obtain⟨fn,tmps,todo,ds,mode,kind,ro⟩:=f;simp only at h;subst h;cases ro<;>rfl
def eE (main:Bool) {id:Nat} (h:f.todo=.code (.exit id)::k) (cs:List Frame) (w:nq):
 stepG.exec P main true f cs none w=match exitTo id k with|none=>iQ P main f cs (some (.exit id)) w|some t=>.go {frame:={f with todo:=t},callers:=cs,status:=.running,dying:=none} w:=by
 obtain⟨fn,tmps,todo,ds,mode,kind,ro⟩:=f;simp only at h;subst h;cases ro<;>(unfold stepG.exec;dsimp only;cases exitTo id k<;>rfl)
def eF (main:Bool) {id:Nat} (h:f.todo=.code (.goto id)::k) (cs:List Frame) (w:nq):
 stepG.exec P main true f cs none w=match gotoIn id k with|none=>iQ P main f cs (some (.goto id)) w|some t=>.go {frame:={f with todo:=t},callers:=cs,status:=.running,dying:=none} w:=by
 obtain⟨fn,tmps,todo,ds,mode,kind,ro⟩:=f;simp only at h;subst h;cases ro<;>(unfold stepG.exec;dsimp only;cases gotoIn id k<;>rfl)
def be.run {φ:α->Prop}:∀{s:Sem α},be P φ s->∀{w w1:nq} {es es1:Array Event} {x:α},s.runT P w es=(.ok x w1,es1)->φ x:=by
 intro s;induction s with
 |pure a=>intro g w w1 es es1 x h;simp only[Sem.runT,zAH,Result.ok.injEq]at h;rw[<-h.1.1];exact g
 |halt y=>intro g w w1 es es1 x h;simp[Sem.runT]at h
 |program k ih=>intro g w w1 es es1 x h;unfold Sem.runT at h;exact ih P g h
 |store m a v k ih=>
  intro g w w1 es es1 x h;cases v<;>unfold Sem.runT at h;all_goals repeat' (split at h)
  all_goals first|exact ih g h|(cases h;done)|(simp at h;done)
 |new o k ih=>intro g w w1 es es1 x h;unfold Sem.runT at h;exact ih _ (g _) h
 |shape r k ih=>intro g w w1 es es1 x h;unfold Sem.runT at h;exact ih _ (g _) h
 |freeze a n k ih=>intro g w w1 es es1 x h;unfold Sem.runT at h;exact ih g h
 |frozen a k ih=>intro g w w1 es es1 x h;unfold Sem.runT at h;exact ih _ (g _) h
 |sys c k ih=>intro g w w1 es es1 x h;unfold Sem.runT at h;exact ih _ (g _) h
 |mark m k ih=>intro g w w1 es es1 x h;unfold Sem.runT at h;exact ih g h
 |_=>
  rename_i ih;intro g w w1 es es1 x h;unfold Sem.runT at h;repeat' (split at h)
  all_goals first
   |exact ih _ (g _) h
   |exact ih g h
   |(simp at h;done)
   |(cases h;done)
def be.xK (a:Addr):∀(n i:Nat) (acc:Array fu),be P (λcs=>cs.size=acc.size+n) (Go.loadCellsFrom a i n acc)
 |0,i,acc=>rfl
 |n+1,i,acc=>λv=>by
  have h:=be.xK a n (i+1) (acc.push v);refine be.mono (λcs qS=>?_) h;rw[qS,Array.size_push];omega
def be.loadVar (t:a00) (a:Addr):be P (λv=>gC P t=true->ug (uf P t) v) (Go.loadVar t a):=by
 unfold Go.loadVar Go.isAgg;refine be.bind (φ:=λb=>b=gC P t) (λb hb=>?_) (be.cN λu hu=>?_)
 .subst hb;cases h:gC P t with
  |true=>
   simp only[zBV];refine be.bind (λn hn=>?_) (be.sizeOf t);subst hn;refine be.bind (λcs qS=>?_) (be.xK a (uf P t) 0 #[]);intro _ xs e;cases e;simpa using qS
  |false=>exact be.mono (λv _ hx=>by cases hx) (be.all _)
 .unfold gC;rw[hu];cases u<;>exact rfl
def BL {r:Operand->fu} {w:nq} {es1:Array Event} {x:Next} (h:(execOp r o).runT P w es=(.ok x w1,es1)) (hf:∀o2,f.oper?=some o2->o2=o):EP P f x:=by
 by_cases hl:LL o.op=true
 .cases cj:o.op<;>rw[cj]at hl<;>first|(cases hl;done)|skip
  rename_i t a
  have key:be P (λx=>∃v,x=.value v/\(gC P t=true->ug (uf P t) v)) (execOp r o):=by
   unfold execOp;simp only[cj];have hb:∀v,(gC P t=true->ug (uf P t) v)->be P (λx=>∃v,x=Next.value v/\(gC P t=true->ug (uf P t) v)) ((λv=>(Pure.pure (Next.value v):Sem Next)) v):=λv hv=>⟨v,rfl,hv⟩
   refine be.bind (φ:=λv=>gC P t=true->ug (uf P t) v) hb ?_;unfold Instr.loadAt;exact be.YK λb=>be.loadVar t b
  obtain⟨v,rfl,hv⟩:=key.run h;intro o2 pz n hn;rw[hf o2 pz,cj]at hn;simp only[G8]at hn;split at hn
  .rename_i ha;cases hn;exact hv ha
  .cases hn
 .have iP:lg f:=λo2 pz=>by rw[hf o2 pz];simpa using hl
  cases x<;>first|exact iP.fits _|exact iP|trivial
def dH.exec (hc:Closed P F S H) (hw:WR P S (KS P S) N p w w') (hg:jl P S p) {top:List Frame} (hf:FL P S H p (f::top) (f'::dL)) (hnh:∀c c' k k',f.todo=.code c::k->f'.todo=.code c'::k'->¬H f.fn c c') (iP:f'.mode=.run->¬mG S f') (j7:f'.mode=.run) (main main':Bool) (hb:UO P S main' aZ)
 (hm:lS m w w') (hd:(gw (stepG.exec (ae P F) main' true f' (dL++aZ) none w')).drawn<=w'.drawn+m):
 dH P S H N p w w' b bs aZ (stepG.exec P main true f (top++b::bs) none w) (stepG.exec (ae P F) main' true f' (dL++aZ) none w'):=by
 have gq:=hf.head
 have Bh:∀{l l':List Item},TL P S (H f.fn) p l l'->(S JK=true->iC P f.tmps l)->dH P S H N p w w' b bs aZ (.go {frame:={f with todo:=l},callers:=top++b::bs,status:=.running,dying:=none} w) (.go {frame:={f' with todo:=l'},callers:=dL++aZ,status:=.running,dying:=none} w'):=
  λh hr=>dH.go hw (hf.top (gq.EK h hr) ⟨rfl,rfl⟩)
 have UP:=gq.PH;have ht:=gq.todo;have bt:=gq.eval hg;generalize h1:f.todo=t at ht;generalize h2:f'.todo=t' at ht;cases ht with
 |nil=>
  rw[eX main' h2]at hd;rw[eX main h1,eX main' h2];exact dH.leave hw hf main main' hb none (λc h=>by cases h) hm hd
 | @cons i i' k k' hi ht=>
   rw[h1]at UP;have BO:S JK=true->∀x∈k,iB x=true:=λhj=>(UP hj).1;have r0:S JK=true->iC P f.tmps k:=λhj=>iC.no (BO hj);have r1:∀{a:Item},iB a=true->S JK=true->iC P f.tmps (a::k):=λha hj=>iC.put (BO hj) ha;have r2:∀{a c:Item},iB a=true->iB c=true->S JK=true->iC P f.tmps (a::c::k):=λha hc hj=>iC.zdx (BO hj) ha hc;cases hi with
   | @code c c' SX=>
     cases SX with
     |hole hh=>exact absurd hh (hnh _ _ _ _ h1 h2)
     |seq ha hb=>unfold stepG.exec;simp only[h1,h2];exact Bh (.cons (.code ha) (.cons (.code hb) ht)) (r2 rfl rfl)
     |block id ha=>unfold stepG.exec;simp only[h1,h2];exact Bh (.cons (.code ha) (.cons (.inBlock id) ht)) (r2 rfl rfl)
     |loop ha=>unfold stepG.exec;simp only[h1,h2];exact Bh (.cons (.code ha) (.cons (.inLoop ha) ht)) (r2 rfl rfl)
     |refuse why c2 hr=>unfold stepG.exec;simp only[h1];exact dH.ended ..
     | @cond x a a' c c' hx ha hb=>
       have hx:=bt.at hx;unfold stepG.exec;simp only[h1,h2];revert hx;generalize f.eval x=v;generalize f'.eval x=v';intro hx;cases hx<;>first|exact dH.ended .. |skip
       rename_i bo;refine Bh (.cons (.code ?_) ht) (r1 rfl);cases bo
       .exact hb
       .exact ha
     |same gt Lm=>
      cases c with
      |ret=>
       rw[eY main' h2]at hd;rw[eY main h1,eY main' h2];exact dH.leave hw hf main main' hb (some .ret) (λc h=>by cases h;rfl) hm hd
      |exit id=>
       rw[eE main' h2]at hd;rw[eE main h1,eE main' h2];rcases EN id ht with⟨e1,e2⟩|⟨j,j',e1,e2,hj⟩
       .rw[e2]at hd;rw[e1,e2];exact dH.leave hw hf main main' hb (some (.exit id)) (λc h=>by cases h;rfl) hm hd
       .rw[e1,e2];exact Bh hj λtK=>iC.no (Je id (BO tK) e1)
      |goto id=>
       rw[eF main' h2]at hd;rw[eF main h1,eF main' h2];rcases EO id ht with⟨e1,e2⟩|⟨j,j',e1,e2,hj⟩
       .rw[e2]at hd;rw[e1,e2];exact dH.leave hw hf main main' hb (some (.goto id)) (λc h=>by cases h;rfl) hm hd
       .rw[e1,e2];exact Bh hj λtK=>iC.no (Jf id (BO tK) e1)
      |skip=>
       unfold stepG.exec;simp only[h1,h2];exact Bh ht r0
      |label l=>
       unfold stepG.exec;simp only[h1,h2];exact Bh ht r0
      |seq a c=>
       simp only[codeOk,dg,zAE]at gt Lm;unfold stepG.exec;simp only[h1,h2];exact Bh (.cons (.code (.same gt.1 (Lm.imp And.left λx=>x))) (.cons (.code (.same gt.2 (Lm.imp And.right λx=>x))) ht)) (r2 rfl rfl)
      |cond x a c=>
       simp only[codeOk,dg,zAE]at gt Lm;have hx:=bt.at gt.1.1;unfold stepG.exec;simp only[h1,h2];revert hx;generalize f.eval x=v;generalize f'.eval x=v';intro hx;cases hx<;>first|exact dH.ended .. |skip
       rename_i bo;refine Bh (.cons (.code ?_) ht) (r1 rfl);cases bo
       .exact .same gt.2 (Lm.imp And.right λx=>x)
       .exact .same gt.1.2 (Lm.imp And.left λx=>x)
      |block id c=>
       unfold stepG.exec;simp only[h1,h2];exact Bh (.cons (.code (.same gt Lm)) (.cons (.inBlock id) ht)) (r2 rfl rfl)
      |loop c=>
       unfold stepG.exec;simp only[h1,h2];exact Bh (.cons (.code (.same gt Lm)) (.cons (.inLoop (.same gt Lm)) ht)) (r2 rfl rfl)
      |scope c=>
       unfold stepG.exec;simp only[h1,h2];exact Bh (.cons (.code (.same gt Lm)) (.cons (.inScope gt Lm) ht)) (r2 rfl rfl)
      |refuse why=>unfold stepG.exec;simp only[h1,h2];exact dH.ended ..
      |region id ops draw=>
       simp only[codeOk,zAE]at gt;have um:∀o∈ops,(pN P S o.op||gG S o.op)=true:=λo ho=>(Array.all_eq_true_iff_forall_mem.1 gt.1) o ho
       have hsk:S JK=true->BG P ops=true->draw=false/\PG P ops=true:=λhj hh=>by
        have h3:=gt.2;rw[hj,hh]at h3;simpa using h3
       unfold stepG.exec at hd⊢;simp only[h1,h2]at hd⊢;cases draw with
       |false=>exact Bh (.cons (.inRegion _ um) ht) λhj=>⟨BO hj,λzdA is2 e=>by cases e;exact λhh=>KR.start (S:=S) (hsk hj hh).2 hh⟩
       |true=>
        simp only[zEI,zAN,zBJ,choose,Sem.run,Question.forced,Question.cut]at hd⊢
        have I8:0<m:=by
         simp only[gw]at hd;omega
        have ht0:=hm 0 I8 (.order f'.fn id);simp only[zDX]at ht0;have ht1:w.tape w.drawn (.order f.fn id)=w'.tape w'.drawn (.order f'.fn id):=by rw[gq.fn];exact ht0
        rw[ht1];have iO:WR P S (KS P S) N p {w with drawn:=w.drawn+1} {w' with drawn:=w'.drawn+1}:=⟨hw.inj,hw.blk,hw.low,hw.fix,hw.gE,hw.kq,hw.str,hw.wG⟩
        have GW:cQ P S (KS P S) N p w w' 0 1 {w with drawn:=w.drawn+1} {w' with drawn:=w'.drawn+1}:=
         ⟨by rw[bN];exact iO,rfl,rfl,rfl,rfl,rfl,rfl,rfl,rfl,λ_ _ _=>rfl⟩
        refine .inr (.inr ⟨0,1,_,_,#[],#[],GW,by simp,.inl ⟨_,_,top,dL,?_,rfl,rfl⟩⟩);rw[bN];exact hf.top (gq.EK (.cons (.inRegion _ um) ht) λhj=>⟨BO hj,λzdA is2 e=>by cases e;exact λhh=>by have:=(hsk hj hh).1;cases this⟩) ⟨rfl,rfl⟩
      |rangeFunc x ps a c=>
       simp only[codeOk,zAE]at gt;unfold stepG.exec at hd⊢;simp only[h1,h2]at hd⊢;rw[kA]at hd;have iP:∀a b,¬H f.fn a b:=Lm.resolve_left (by simp[dg]);have hz:KS P S (.label (100000+f.fn)):=PN ((hc.Bf f.fn gq.SV).1 iP)
       refine dH.run (SR.enterLoop gq.fn gq.SV hz gq.tmps ps gt.1.2 gt.2 gq.round) hw hm (ev:=λr es=>seen P f.fn es) (UM:=λr es=>seen (ae P F) f'.fn es) (λr es e he=>mem_seen he)
        (k:=λr=>match r with
          |.ok (l,mark) w=>stepG.apply P true {f with todo:=.inRangeFunc l::k,defers:=mark++f.defers} (top++b::bs) none
             (do let d<-resolve (Frame.eval {f with todo:=.inRangeFunc l::k,defers:=mark++f.defers}) {callee:=.value x,args:=#[.const (.func (.yield l) #[] #[])],argTypes:=#[]} 0;invoke d.target d.args) w
          |.halt _ w=>.ended (.stuck "range over a function: no such loop" (f.pos P)) w)
        (k':=λr=>match r with
          |.ok (l,mark) w=>stepG.apply (ae P F) true {f' with todo:=.inRangeFunc l::k',defers:=mark++f'.defers} (dL++aZ) none
             (do let d<-resolve (Frame.eval {f' with todo:=.inRangeFunc l::k',defers:=mark++f'.defers}) {callee:=.value x,args:=#[.const (.func (.yield l) #[] #[])],argTypes:=#[]} 0;invoke d.target d.args) w
          |.halt _ w=>.ended (.stuck "range over a function: no such loop" (f'.pos (ae P F))) w)
        ?_ ?_ ?_ ?_ ?_
       .exact hd
       .intro r;cases r with
        |ok x w1=>exact zAP (oE (ae P F) _ w1 #[]) (sk ..)
        |halt=>exact zAB _
       .intro x w1 _;exact⟨_,_,_,rfl⟩
       .intro cc n w1 gY y y' th hy GW Ji;obtain⟨l,mark⟩:=y;obtain⟨l',ur⟩:=y';have hle:=fG p w.heap.size w'.heap.size cc;have YX:=(gq.mono hle).mk' (.cons (.pP hy.1 iP) (ht.mono hle)) (hy.2.append (gq.defers.mono hle)) (.inr iP) (r1 rfl);refine dH.apply hc th.rel ((hf.mono hle).top YX ⟨rfl,rfl⟩) GW ?_ Ji λ_ _ x _ _ _=>EP.no rfl x;refine SR.mE hc.oJ ?_ ?_
        .exact(YX.eval (hg.mono hle)).at gt.1.1
        .have:=AR.one (S:=S) (VR.yield (S:=S) hy.1);simpa [Frame.eval]using this
       .intro cc n w1 gY v v' th hv;exact dH.ended ..
   | @inBlock id=>unfold stepG.exec;simp only[h1,h2];exact Bh ht r0
   | @inScope c gt _=>unfold stepG.exec;simp only[h1,h2];exact Bh ht r0
   | @inLoop c c' SX=>unfold stepG.exec;simp only[h1,h2];exact Bh (.cons (.code SX) (.cons (.inLoop SX) ht)) (r2 rfl rfl)
   | @pP l l' hl _=>unfold stepG.exec;simp only[h1,h2];exact dH.ended ..
   | @begin=>
     unfold stepG.exec at hd⊢;simp only[h1,h2]at hd⊢;refine dH.apply hc hw hf hm ?_ hd λ_ _ x _ _ _=>EP.no (by unfold Frame.oper?;rw[h1]) x;rcases LN gq.round with⟨e1,e2⟩|⟨l,l',e1,e2,hl⟩
     .rw[e1,e2];exact(SR.stuck (α:=Unit) (β:=Unit) (Q:=QE Unit)).aD λq _ hq=>SR.pure .skip
     .rw[e1,e2];exact(SR.beginRound hl).aD λq _ hq=>SR.pure .skip
   | @kz l l' hl iP=>
     unfold stepG.exec at hd⊢;simp only[h1,h2]at hd⊢;rw[kA]at hd
     refine dH.run (SR.endLoop hl) hw hm (ev:=λr es=>seen P f.fn es) (UM:=λr es=>seen (ae P F) f'.fn es) (λr es e he=>mem_seen he)
      (k:=λr=>match r with
        |.ok jump w=>.go {frame:={f with todo:=(jump.map Item.code).toList++k},callers:=top++b::bs,status:=.running,dying:=none} w
        |.halt (.panic v) w=>.go {frame:=f.raise [{v,recovered:=false}],callers:=top++b::bs,status:=.running,dying:=none} w
        |.halt _ w=>.ended (.stuck "range over a function: no such loop" (f.pos P)) w)
      (k':=λr=>match r with
        |.ok jump w=>.go {frame:={f' with todo:=(jump.map Item.code).toList++k'},callers:=dL++aZ,status:=.running,dying:=none} w
        |.halt (.panic v) w=>.go {frame:=f'.raise [{v,recovered:=false}],callers:=dL++aZ,status:=.running,dying:=none} w
        |.halt _ w=>.ended (.stuck "range over a function: no such loop" (f'.pos (ae P F))) w)
      hd ?_ ?_ ?_ ?_
     .intro r;cases r with
      |ok x w1=>exact zAB _
      |halt x w1=>cases x<;>exact zAB _
     .intro x w1 hx;cases x<;>first|exact⟨_,_,_,rfl⟩|exact absurd hx id
     .intro cc n w1 gY y y' th hy GW Ji;have hle:=fG p w.heap.size w'.heap.size cc;obtain⟨rfl,hy⟩:=hy;refine dH.go th.rel ((hf.mono hle).top ((gq.mono hle).EK ?_ λhj=>iC.no λx hx=>?_) ⟨rfl,rfl⟩)
      .cases y with
       |none=>exact ht.mono hle
       |some c=>exact .cons (.code (.same (hy c rfl) (.inr iP))) (ht.mono hle)
      .rcases zCH.1 hx with hx|hx
       .cases y with
        |none=>cases hx
        |some c=>simp at hx;subst hx;rfl
       .exact BO hj x hx
     .intro cc n w1 gY v v' th hv;have hle:=fG p w.heap.size w'.heap.size cc;exact dH.go th.rel ((hf.mono hle).top ((gq.mono hle).raise (.cons false false hv .nil)) (jH f _))
   | @inRegion ops is um=>
     cases is with
     |nil=>unfold stepG.exec;simp only[h1,h2];exact Bh ht r0
     |cons i is=>
      unfold stepG.exec at hd⊢;simp only[h1,h2]at hd⊢;have hy:∀j,yielded ops f'.tmps j=yielded ops f.tmps j:=λj=>(sj ops gq.tmps j).symm;have hyy:(yielded ops f'.tmps)=(yielded ops f.tmps):=funext hy;rw[hyy]at hd⊢;split at hd
      .rename_i mJ;rw[zAF mJ,zAF mJ];have He:f.oper?=ops[i]?:=by unfold Frame.oper?;rw[h1]
       have pz:f'.oper?=ops[i]?:=by unfold Frame.oper?;rw[h2]
       unfold stepG.oper at hd⊢;rw[He,pz];rw[pz]at hd;cases ho:ops[i]? with
       |none=>exact dH.ended ..
       |some o=>
        rw[ho]at hd
        have UQ:pN P S o.op=true:=by
         have h0:=um o (zDE ho);rw[zBM]at h0;refine h0.resolve_right λh3=>iP j7 ⟨j7,o,ops,i,is,_,h2,ho,h3,?_⟩;rw[hyy];rw[ho]at mJ;simpa using mJ
        have Jh:∀c,o.op≠ .defer c:=by
         intro c Ln;rw[Ln]at UQ;simp[pN]at UQ
        have key:∀(P:un) (fr:Frame) (cs:List Frame) (w:nq),(match fr.roundOf,o.op with
         |some l,.defer c=>stepG.apply P true fr cs none (do Instr.deferInRound l (<-resolve fr.eval c o.type);pure .skip) w
         |_,_=>stepG.apply P true fr cs none (execOp fr.eval o) w)=stepG.apply P true fr cs none (execOp fr.eval o) w:=by
         intro P fr cs w;split
         .rename_i hx;exact absurd hx (Jh _)
         .rfl
        have YN:(gw (stepG.apply (ae P F) true f' (dL++aZ) none (execOp f'.eval o) w')).drawn<=w'.drawn+m:=by
         rw[<-key (ae P F) f' (dL++aZ) w'];exact hd
        have e1:=key P f (top++b::bs) w;have e2:=key (ae P F) f' (dL++aZ) w';refine Eq.mpr (congr (zBB (dH P S H N p w w' b bs aZ) e1) e2) ?_;exact dH.apply hc hw hf hm (SR.execOp hw.no hc.i6 hc.eh hc.oJ bt o UQ hw.no hw.no λhj=>KR.fits ((UP hj).2 _ _ rfl) ho λs=>rfl) YN λhj es x w1 es1 he=>BL he λo2 pz=>by rw[He,ho]at pz;exact(zAV pz).symm
      .rename_i mJ;rw[zAG mJ,zAG mJ];exact dH.go hw (hf.top (gq.finish VR.undef λ_ o _ n _=>oI n) (ei f _))
end
section
variable {P:un} {F:Array Func} {S:Nat->Bool} {H:FuncId->Code->Code->Prop} {N:Nat} {p:Pi} {w w':nq} {b:Frame} {bs:List Frame} {aZ:List Frame}
def pR {H:Code->Code->Prop} (h:TL P S H p l l'):∀d x r s k,l≠ .call d x r s::k/\l'≠ .call d x r s::k:=by
 intro d x r s k;cases h with
 |nil=>exact⟨by simp,by simp⟩
 |cons hi ht=>cases hi<;>exact⟨by simp,by simp⟩
def oK (h:∀d x r s k,f.todo≠ .call d x r s::k):f.catches P=false:=by
 unfold Frame.catches;split
 .rename_i hh;exact absurd hh (h _ _ _ _ _)
 .rfl
def dH.unwind (hc:Closed P F S H) (hw:WR P S (KS P S) N p w w') {top:List Frame} (hf:FL P S H p (f::top) (f'::dL)) (main main':Bool) (hb:UO P S main' aZ)
 (hm:lS m w w') (hd:(gw (Go.unwind (ae P F) main' f' (dL++aZ) none w')).drawn<=w'.drawn+m):
 dH P S H N p w w' b bs aZ (Go.unwind P main f (top++b::bs) none w) (Go.unwind (ae P F) main' f' (dL++aZ) none w'):=by
 have gq:=hf.head;have Lo:=gq.defers;generalize h1:f.defers=t at Lo;generalize h2:f'.defers=t' at Lo;unfold Go.unwind at hd⊢;rw[h1,h2];rw[h2]at hd;cases Lo with
 | @cons r r' l l' hr hl=>
   simp only[kA]at hd⊢
   refine dH.run (SR.takeDeferred hr) hw hm (ev:=λr es=>seen P f.fn es) (UM:=λr es=>seen (ae P F) f'.fn es) (λr es e he=>mem_seen he)
    (k:=fun r=>match r with|.ok calls w=>.go {frame:={f with defers:=calls++l},callers:=top++b::bs,status:=.running,dying:=none} w|.halt _ w=>.ended (.stuck "the deferred calls of a range-over-func loop have been taken" (f.pos P)) w)
    (k':=fun r=>match r with|.ok calls w=>.go {frame:={f' with defers:=calls++l'},callers:=dL++aZ,status:=.running,dying:=none} w|.halt _ w=>.ended (.stuck "the deferred calls of a range-over-func loop have been taken" (f'.pos (ae P F))) w)
    hd ?_ ?_ ?_ ?_
   .intro r;cases r<;>exact zAB _
   .intro x w1 _;exact⟨_,_,_,rfl⟩
   .intro c n w1 gY y y' th hy _ _;obtain⟨rfl,rfl⟩:=hy;have hle:=fG p w.heap.size w'.heap.size c;exact dH.go th.rel ((hf.mono hle).top ((gq.mono hle).mk' (gq.todo.mono hle) (hl.mono hle) (.inr (gq.nd.resolve_left λx=>by rw[h1]at x;cases x.1)) gq.PH) ⟨rfl,rfl⟩)
   .intro c n w1 gY v v' th hv;exact dH.ended ..
 |nil=>
  simp only at hd⊢;have j7:=gq.mode;generalize g1:f.mode=o at j7;generalize g2:f'.mode=o' at j7;rw[g2]at hd;cases j7 with
  |run=>exact dH.ended ..
  | @panicking l l' hl=>
    simp only;have n1:=oK (P:=P) (f:=f) λd x r s k=>(pR gq.todo d x r s k).1;have n2:=oK (P:=ae P F) (f:=f') λd x r s k=>(pR gq.todo d x r s k).2;simp only[n1,n2,zAN,zBJ];cases hf with
    |one h r=>exact dH.raised hl ..
    |cons h t BH=>
     cases t with
     |one h r=>exact dH.go hw (.one (h.raise hl) ⟨(jH _ _).1.trans r.1,by rw[(jH _ _).2];exact r.2⟩)
     |cons h t LM=>exact dH.go hw (.cons (h.raise hl) t LM)
  |returning=>
   simp only at hd⊢;rw[<-gq.fn]at hd⊢;rcases hc.body f.fn gq.SV with⟨e1,e2⟩|⟨fn,mv,_,_,e1,e2,_,_,_,_,_,_,e3⟩
   .rw[e1,e2];exact dH.doReturn hw hf main main' hb (gq.tmps.getD 0 VR.undef)
   .rw[e1,e2];rw[e2]at hd;simp only[kA]at hd⊢
    refine dH.run (SR.results e3 gq.tmps) hw hm (ev:=λr es=>seen P f.fn es) (UM:=λr es=>seen (ae P F) f.fn es) (λr es e he=>mem_seen he)
     (k:=fun r=>match r with|.ok v w=>Go.doReturn P main f (top++b::bs) none v w|.halt (.stuck s) w=>.ended (.stuck s (f.pos P)) w|.halt _ w=>.ended (.stuck "return: the result variables cannot be read" (f.pos P)) w)
     (k':=fun r=>match r with|.ok v w=>Go.doReturn (ae P F) main' f' (dL++aZ) none v w|.halt (.stuck s) w=>.ended (.stuck s (f'.pos (ae P F))) w|.halt _ w=>.ended (.stuck "return: the result variables cannot be read" (f'.pos (ae P F))) w)
     hd ?_ ?_ ?_ ?_
    .intro r;cases r with
     |ok v w=>simp only;rw[mI _ _ _ gq.lQ];exact zAB _
     |halt x=>cases x<;>exact zAB _
    .intro x w1 hx;cases x<;>exact⟨_,_,_,rfl⟩
    .intro c n w1 gY x y th hv _ _;exact dH.doReturn th.rel (hf.mono (fG _ _ _ _)) main main' hb hv
    .intro c n w1 gY v v' th hv;exact dH.ended ..
def dH.step (hc:Closed P F S H) (hw:WR P S (KS P S) N p w w') (hg:jl P S p) {top:List Frame} (hf:FL P S H p (f::top) (f'::dL)) (hnh:∀c c' k k',f.mode=.run->f.todo=.code c::k->f'.todo=.code c'::k'->¬H f.fn c c') (iP:¬mG S f') (main main':Bool) (hb:UO P S main' aZ)
 (hm:lS m w w') (hd:(gw (stepG (ae P F) main' {frame:=f',callers:=dL++aZ,status:=.running,dying:=none} w')).drawn<=w'.drawn+m):
 dH P S H N p w w' b bs aZ (stepG P main {frame:=f,callers:=top++b::bs,status:=.running,dying:=none} w)
  (stepG (ae P F) main' {frame:=f',callers:=dL++aZ,status:=.running,dying:=none} w'):=by
 have j7:=hf.head.mode
 have bp:∀(P:un) (main:Bool) (f:Frame) (cs:List Frame) (w:nq),f.mode=.run->stepG P main {frame:=f,callers:=cs,status:=.running,dying:=none} w=stepG.exec P main true f cs none w:=by
  intro P main f cs w h;unfold stepG;simp only[h]
 have hun:∀(P:un) (main:Bool) (f:Frame) (cs:List Frame) (w:nq),f.mode≠ .run->stepG P main {frame:=f,callers:=cs,status:=.running,dying:=none} w=Go.unwind P main f cs none w:=by
  intro P main f cs w h;unfold stepG;simp only
 by_cases h:f.mode=.run
 .have h':f'.mode=.run:=by
   rw[h]at j7;generalize f'.mode=o at j7;cases j7;rfl
  rw[bp _ _ _ _ _ h']at hd;rw[bp _ _ _ _ _ h,bp _ _ _ _ _ h'];exact dH.exec hc hw hg hf (λc c' k k'=>hnh c c' k k' h) (λ_=>iP) h' main main' hb hm hd
 .have h':f'.mode≠ .run:=by
   intro e;rw[e]at j7;generalize hx:f.mode=o at j7;cases j7;exact h hx
  rw[hun _ _ _ _ _ h']at hd;rw[hun _ _ _ _ _ h,hun _ _ _ _ _ h'];exact dH.unwind hc hw hf main main' hb hm hd
end
def new (w w1:nq):Nat->Prop:=λr=>w.heap.size<=r/\r<w1.heap.size
def aN (kn:Nat->Prop) (w w1:nq):Nat->Prop:=λr=>kn r\/new w w1 r
structure Env (kn:Nat->Prop) (w w2:nq):Prop where
 size:w.heap.size<=w2.heap.size
 same:∀r,kn r->w2.heap[r]?=w.heap[r]?
 os:w2.os=w.os
 out:w2.output=w.output
def Env.refl (kn:Nat->Prop) (w:nq):Env kn w w:=⟨zAB _,λ_ _=>rfl,rfl,rfl⟩
def Env.trans {w:nq} (h:Env kn w w1) (k:Env kn w1 w2):Env kn w w2:=
 ⟨zAP h.1 k.1,λr hr=>(k.2 r hr).trans (h.2 r hr),k.os.trans h.os,k.out.trans h.out⟩
def Hf (kn own:Nat->Prop) (e:Event):Prop:=
 e=noRoomEvent\/(e.sync=false/\∃r,kn r/\((∃a:Addr,e.loc=.cell a/\a.block=r)\/e.loc=.obj r)/\(e.write=true->own r))
structure Fair (kn own:Nat->Prop) (w w1:nq) (es:Array Event):Prop where
 size:w.heap.size<=w1.heap.size
 others:∀r,r<w.heap.size->¬own r->w1.heap[r]?=w.heap[r]?
 os:w1.os=w.os
 out:w1.output=w.output
 tape:w1.tape=w.tape
 drawn:w.drawn<=w1.drawn
 ev:∀e∈es,Hf (aN kn w w1) (aN own w w1) e
abbrev jc (f:Frame) (cs:List Frame):Goroutine:={frame:=f,callers:=cs,status:=.running,dying:=none}
abbrev pS:=(Nat->Prop)->(Nat->Prop)->fu->nq->Prop
abbrev me:=(Nat->Prop)->(Nat->Prop)->Frame->nq->Prop
abbrev ep:=(Nat->Prop)->(Nat->Prop)->Frame->nq->fu->nq->(Nat->Prop)->(Nat->Prop)->Prop
abbrev XP:=(Nat->Prop)->(Nat->Prop)->Frame->List Frame->nq->Prop
def Body (Q:un) (main:Bool) (base:List Frame) (Fin:pS) (HA:me) (HP:ep) (I:XP):XP:=λkn own f top w=>
 ∀w2,Env kn w w2->
  (∃w3 es f2 pT,stepG Q main (jc f (top++base)) w2=.go (jc f2 (pT++base)) w3 es/\Fair kn own w2 w3 es/\I (aN kn w2 w3) (aN own w2 w3) f2 pT w3)\/
  (∃w3 es v b bs,base=b::bs/\stepG Q main (jc f (top++base)) w2=.go (jc (b.finish v) bs) w3 es/\Fair kn own w2 w3 es/\Fin (aN kn w2 w3) (aN own w2 w3) v w3)\/
  (∃w3 es v,base=[]/\stepG Q main (jc f (top++base)) w2=.ended (.done v) w3 es/\Fair kn own w2 w3 es/\Fin (aN kn w2 w3) (aN own w2 w3) v w3)\/
  (HA kn own f w2/\∃c rest,top=c::rest/\∀v w3 fx bI,HP kn own f w2 v w3 fx bI->I fx bI (c.finish v) rest w3)
def CT (Q:un) (main:Bool) (base:List Frame) (Fin:pS) (HA:me) (HP:ep):XP:=λkn own f top w=>
 ∀I:XP,(∀kn own f top w,Body Q main base Fin HA HP I kn own f top w->I kn own f top w)->I kn own f top w
section
variable {Q:un} {main:Bool} {base:List Frame} {Fin:pS} {HA:me} {HP:ep}
def Body.mono {I J:XP} (h:∀kn own f top w,I kn own f top w->J kn own f top w) {top:List Frame} {w:nq} (x:Body Q main base Fin HA HP I kn own f top w):Body Q main base Fin HA HP J kn own f top w:=by
 intro w2 he;rcases x w2 he with⟨w3,es,f2,pT,h1,h2,h3⟩|x|x|⟨h1,c,rest,hc,h2⟩
 .exact .inl ⟨w3,es,f2,pT,h1,h2,h _ _ _ _ _ h3⟩
 .exact .inr (.inl x)
 .exact .inr (.inr (.inl x))
 .exact .inr (.inr (.inr ⟨h1,c,rest,hc,λv w3 fx bI hp=>h _ _ _ _ _ (h2 v w3 fx bI hp)⟩))
def CT.mk {kn own:Nat->Prop} {f:Frame} {top:List Frame} {w:nq} (h:Body Q main base Fin HA HP (CT Q main base Fin HA HP) kn own f top w):CT Q main base Fin HA HP kn own f top w:=
 λI hI=>hI _ _ _ _ _ (h.mono λ_ _ _ _ _ x=>x I hI)
def CT.ind {I:XP} (hI:∀kn own f top w,Body Q main base Fin HA HP (λkn own f top w=>I kn own f top w/\CT Q main base Fin HA HP kn own f top w) kn own f top w->I kn own f top w)
 {top:List Frame} {w:nq} (h:CT Q main base Fin HA HP kn own f top w):I kn own f top w:=
 (h (λkn own f top w=>I kn own f top w/\CT Q main base Fin HA HP kn own f top w) λ_ _ _ _ _ x=>⟨hI _ _ _ _ _ x,CT.mk (x.mono λ_ _ _ _ _ y=>y.2)⟩).1
end
def kB (p:Pi):Nat->Prop:=λr'=>∃r,p r r'
def cz (N:Nat) (p:Pi):Nat->Prop:=λr'=>∃r,p r r'/\N<=r
def PO (p:Pi) (L C c:Nat):kB (ext p L C c)=λr'=>kB p r'\/(C<=r'/\r'<C+c):=by
 funext r';apply propext;constructor
 .rintro⟨r,h|⟨k,hk,h1,h2⟩⟩
  .exact .inl ⟨r,h⟩
  .exact .inr ⟨by omega,by omega⟩
 .rintro(⟨r,h⟩|⟨h1,h2⟩)
  .exact⟨r,.inl h⟩
  .exact⟨L+(r'-C),.inr ⟨r'-C,by omega,rfl,by omega⟩⟩
def Jj {N:Nat} (p:Pi) {L:Nat} (hN:N<=L) (C c:Nat):cz N (ext p L C c)=λr'=>cz N p r'\/(C<=r'/\r'<C+c):=by
 funext r';apply propext;constructor
 .rintro⟨r,h|⟨k,hk,h1,h2⟩,hr⟩
  .exact .inl ⟨r,h,hr⟩
  .exact .inr ⟨by omega,by omega⟩
 .rintro(⟨r,h,hr⟩|⟨h1,h2⟩)
  .exact⟨r,.inl h,hr⟩
  .exact⟨L+(r'-C),.inr ⟨r'-C,by omega,rfl,by omega⟩,by omega⟩
section
variable {P:un} {S:Nat->Bool} {N:Nat} {p:Pi}
def WR.env {w:nq} (h:WR P S (KS P S) N p lw w) (he:Env (kB p) w w2):WR P S (KS P S) N p lw w2:=
 ⟨h.inj,λr r' hr=>by
   obtain⟨o,o',h1,h2,h3⟩:=h.blk r r' hr;exact⟨o,o',h1,(he.2 r' ⟨r,hr⟩).trans h2,h3⟩,h.low,h.fix,h.gE,zAP h.kq he.1,h.str,h.wG⟩
def WR.tape {w:nq} (h:WR P S (KS P S) N p lw w) (T:Nat->Question->Nat) (d:Nat):WR P S (KS P S) N p {lw with tape:=T,drawn:=d} w:=
 ⟨h.inj,h.blk,h.low,h.fix,h.gE,h.kq,h.str,h.wG⟩
def cQ.fair {w lw1:nq} (hw:WR P S (KS P S) N p lw w) (h:cQ P S (KS P S) N p lw w c n lw1 w1) (he:∀e∈es,OP N (ext p lw.heap.size w.heap.size c) e):
 Fair (kB p) (cz N p) w w1 es/\kB (ext p lw.heap.size w.heap.size c)=aN (kB p) w w1/\cz N (ext p lw.heap.size w.heap.size c)=aN (cz N p) w w1:=by
 have e1:kB (ext p lw.heap.size w.heap.size c)=aN (kB p) w w1:=by
  rw[PO];unfold aN new;rw[h.my]
 have e2:cz N (ext p lw.heap.size w.heap.size c)=aN (cz N p) w w1:=by
  rw[Jj p hw.low];unfold aN new;rw[h.my]
 refine⟨⟨by rw[h.my];omega,λr hr hn=>h.others r hr λs hs=>?_,h.os',h.Uw,h.GV,by rw[h.mz];omega,λe hx=>?_⟩,e1,e2⟩
 .rcases zCX s N with av|By
  .exact av
  .exact absurd ⟨s,hs,By⟩ hn
 .rw[<-e1,<-e2];rcases he e hx with h0|⟨h1,r,r',h2,h3,h4⟩
  .exact .inl h0
  .exact .inr ⟨h1,r',⟨r,h2⟩,h3,λBP=>⟨r,h2,h4 BP⟩⟩
end
def Base (P:Program):Frame:={fn:=P.funcs.size,tmps:=#[],todo:=[.extern "" #[],.code (.refuse "")],defers:=[⟨.nil,#[]⟩],mode:=.run,kind:=.normal}
def d8 (P:Program) (v:Value):(Base P).finish v={fn:=P.funcs.size,tmps:=#[v],todo:=[.code (.refuse "")],defers:=[⟨.nil,#[]⟩],mode:=.run,kind:=.normal}:=rfl
def hU (P:un) (v:fu) (w:nq):∃o w1,step P (lone ((Base P).finish v) [] w)=.ended o w1:=⟨_,_,step_lone_ended (by rw[d8];rfl)⟩
def fO (P:un) (ch:List PanicEntry) (w:nq):∃o w1,step P (lone ((Base P).raise ch) [] w)=.ended o w1:=⟨_,_,step_lone_ended (by rfl)⟩
def fJ {cs ds:List Frame} {w v:nq} (h:lone f cs w=lone g ds v):f=g/\cs=ds/\w=v:=by
 have h1:(lone f cs w).gs[0]! =(lone g ds v).gs[0]!:=by rw[h]
 have h2:(lone f cs w).world=(lone g ds v).world:=by rw[h]
 have h3:(jc f cs)=(jc g ds):=h1;simp only[Goroutine.mk.injEq]at h3;exact⟨h3.1,h3.2.1,h2⟩
def Alike (w w':nq):Prop:=∀r:Nat,w'.heap[r]?=w.heap[r]? \/((∃d,w.heap[r]?=some (Obj.deferred d))/\∃d,w'.heap[r]?=some (Obj.deferred d))
def Alike.refl (w:nq):Alike w w:=λ_=>.inl rfl
def Alike.trans {a b c:nq} (h:Alike a b) (k:Alike b c):Alike a c:=λr=>by
 rcases k r with k|⟨⟨d,k1⟩,k2⟩
 .rcases h r with h|⟨h1,d,h2⟩
  .exact .inl (k.trans h)
  .exact .inr ⟨h1,d,k.trans h2⟩
 .rcases h r with h|⟨h1,_⟩
  .exact .inr ⟨⟨d,h▸k1⟩,k2⟩
  .exact .inr ⟨h1,k2⟩
def us (P:un) (n:Nat) (m m1:Machine) (h:runN P n m=.next m1):runN P (n+1) m=step P m1:=by
 rw[runN_add,h];simp only[runN];split<;>simp_all
section
variable {P:un} {S:Nat->Bool} {H:FuncId->Code->Code->Prop} {N:Nat} {p:Pi}
def FD (P:un) (S:Nat->Bool) (H:FuncId->Code->Code->Prop) (p:Pi) (g:Frame):Prop:=(∃d,DL p g.defers d)/\∀d x r s k,g.todo≠ .call d x r s::k
def FL.fd {l l':List Frame} (h:FL P S H p l l'):∀g∈l,FD P S H p g:=by
 induction h with
 |one h r=>intro g hg;obtain rfl:g=_:=by simpa using hg
           exact⟨⟨_,h.defers⟩,λd x r s k=>(pR h.todo d x r s k).1⟩
 |cons h t BH ih=>
  intro g hg;rcases zAL.1 hg with rfl|hg
  .exact⟨⟨_,h.defers⟩,λd x r s k=>(pR h.todo d x r s k).1⟩
  .exact ih g hg
def zz (g:Frame) (ch:List PanicEntry):(g.raise ch).defers=g.defers/\(g.raise ch).todo=g.todo:=by
 unfold Frame.raise;split<;>exact⟨rfl,rfl⟩
def raise_mode (g:Frame) {ch:List PanicEntry} {e:PanicEntry} (h:ch.head?=some e):∃Hg,(g.raise ch).mode=.panicking Hg/\Hg.head?=some e:=by
 unfold Frame.raise;split
 .refine⟨_,rfl,?_⟩;cases ch with
  |nil=>cases h
  |cons x l=>exact h
 .exact⟨_,rfl,h⟩
def ut:∀(n:Nat) (h:Frame) (hs:List Frame) (v w2:nq) (ch:List PanicEntry) (e0:PanicEntry),h.mode=.panicking ch->ch.head?=some e0->FD P S H p h->(∀g∈hs,FD P S H p g)->
 WR P S (KS P S) N p v w2->∀(fr:Frame) (w1:nq),runN P n (lone h (hs++[Base P]) v)=.next (lone fr [Base P] w1)->
 ((∃x,fr.leaving P w1 (.returned x))\/∃Hg,fr.leaving P w1 (.panicked Hg))->∃Hg,fr.mode=.panicking Hg/\Hg.head?=some e0/\Alike v w1:=by
 intro n;induction n with
 |zero=>
  intro h hs v w2 ch e0 hm he hd Lo hw fr w1 hr hl;simp only[runN,Stepped.next.injEq]at hr;obtain⟨rfl,_,rfl⟩:=fJ hr;exact⟨ch,hm,he,Alike.refl _⟩
 |succ n ih=>
  intro h hs v w2 ch e0 hm he hd Lo hw fr w1 hr hl;obtain⟨⟨d',hdl⟩,Jk⟩:=hd
  have cn:stepG P true {frame:=h,callers:=hs++[Base P],status:=.running,dying:=none} v=Go.unwind P true h (hs++[Base P]) none v:=by
   unfold stepG;simp only[hm]
  generalize hdd:h.defers=ds at hdl;cases hdl with
  | @cons r r' l l' UR hl'=>
    obtain⟨o,o',ho,BQ,hc⟩:=hw.blk r r' UR
    have uu:(∃x,(Instr.takeDeferred r).run P v=.halt x v)->False:=by
     rintro⟨x,hx⟩
     have:step P (lone h (hs++[Base P]) v)=.ended _ _:=step_lone_ended (by
      rw[cn];unfold Go.unwind;simp only[hdd,Sem.runT_eq,hx,GStep.bare_after];rfl)
     simp only[runN,this]at hr;cases hr
    have LO:(∀d,o≠ .deferred (some d))->False:=λhn=>uu (by
     simp only[Instr.takeDeferred,getObj,bind,Sem.bind,Sem.run,ho];cases o<;>first|exact⟨_,rfl⟩|(rename_i d;cases d<;>first|exact⟨_,rfl⟩|exact absurd rfl (hn _)))
    rcases hc with⟨_,c,c',el,fz,rfl,rfl,_⟩|⟨hN,sZ⟩
    .exact(LO λd h=>by cases h).elim
    .cases sZ with
     |eK=>
      have bp:(Instr.takeDeferred r).run P v=.ok [] {v with heap:=v.heap.setIfInBounds r (.deferred none)}:=by
       simp[Instr.takeDeferred,getObj,setObj,bind,Sem.bind,Sem.run,ho,pure]
      have cu:step P (lone h (hs++[Base P]) v)=.next (lone {h with defers:=[]++l} (hs++[Base P]) {v with heap:=v.heap.setIfInBounds r (.deferred none)}):=step_lone_go (by
       rw[cn];unfold Go.unwind;simp only[hdd,Sem.runT_eq,bp,GStep.bare_after];rfl)
      simp only[runN,cu]at hr;obtain⟨Hg,k1,k2,k3⟩:=ih {h with defers:=[]++l} hs _ {w2 with heap:=w2.heap.setIfInBounds r' (.deferred none)} ch e0 hm he ⟨⟨_,hl'⟩,Jk⟩ Lo (hw.setObj UR .eJ hN) fr w1 hr hl;refine⟨Hg,k1,k2,Alike.trans (λs=>?_) k3⟩;by_cases hs:r=s
      .subst hs;have av:=(zAD.1 ho).1;exact .inr ⟨⟨_,ho⟩,none,by simp[av]⟩
      .exact .inl (by simp[hs])
     |_=>exact(LO λd h=>by cases h).elim
  |nil=>
   have YY:h.catches P=false:=oK Jk;cases hs with
   |nil=>
    exfalso
    have cu:step P (lone h ([]++[Base P]) v)=.next (lone ((Base P).raise ch) [] v):=step_lone_go (by
     rw[cn];unfold Go.unwind;simp only[hdd,hm,YY,zAN,zBJ];rfl)
    simp only[runN,cu]at hr;obtain⟨o,w5,he5⟩:=fO P ch v;cases n with
    |zero=>
     simp only[runN,Stepped.next.injEq]at hr;have:=(fJ hr).2.1;simp at this
    |succ n=>simp only[runN,he5]at hr;cases hr
   |cons g2 j8=>
    have cu:step P (lone h (g2::j8++[Base P]) v)=.next (lone (g2.raise ch) (j8++[Base P]) v):=step_lone_go (by
     rw[cn];unfold Go.unwind;simp only[hdd,hm,YY,zAN,zBJ];rfl)
    simp only[runN,cu]at hr;obtain⟨ch3,m1,m2⟩:=raise_mode g2 he;obtain⟨YN,ht2⟩:=Lo g2 (by simp);have YZ:=zz g2 ch;exact ih (g2.raise ch) j8 v w2 ch3 e0 m1 m2 ⟨by rw[YZ.1];exact YN,by rw[YZ.2];exact ht2⟩ (λg hg=>Lo g (by simp[hg])) hw fr w1 hr hl
end
def Bar (P:un) (lf:Frame) (uv:List Frame) (lw:nq) (R:fu->nq->Prop) (C:fu->nq->Prop):Prop:=
 ∀T,∃n fr w1,runN P n (lone lf (uv++[Base P]) {lw with tape:=T})=.next (lone fr [Base P] w1)/\
  ((∃v,fr.leaving P w1 (.returned v)/\R v w1)\/(∃e ch,fr.leaving P w1 (.panicked (e::ch))/\C e.v w1/\∀(S:Nat->Bool) (q:Pi) v',S (P.funcs.size+P.globals.size)=false->¬VR S q e.v v'))
def uw (P:un) (S:Nat->Bool) (N:Nat) (p:Pi) (R:fu->nq->Prop) (kn own:Nat->Prop) (v':fu) (w':nq):Prop:=
 ∃q v w1,R v w1/\VR S q v v'/\WR P S (KS P S) N q w1 w'/\Le p q/\kn=kB q/\own=cz N q
def ia (m:Nat->Nat) (d:Nat):Nat->Nat
 |0=>d
 |k+1=>ia m d k+m k
def rj (m:Nat->Nat) (d:Nat) {k j:Nat} (h:k<=j):ia m d k<=ia m d j:=by
 induction h with
 |refl=>exact zAB _
 |step _ ih=>simp only[ia];omega
open Classical in
def splice [Inhabited α] (m:Nat->Nat) (a:Nat->Nat->α) (d:Nat):∃T:Nat->α,∀k j,j<m k->T (ia m d k+j)=a k j:=by
 refine⟨λi=>if h:∃k,ia m d k<=i/\i<ia m d (k+1)then a h.choose (i-ia m d h.choose)else default,λk j hj=>?_⟩;have h:∃k',ia m d k'<=ia m d k+j/\ia m d k+j<ia m d (k'+1):=⟨k,by omega,by simp only[ia];omega⟩
 simp only[dif_pos h];obtain⟨c,hc,gV⟩:∃c,(ia m d c<=ia m d k+j/\ia m d k+j<ia m d (c+1))/\h.choose=c:=⟨h.choose,h.choose_spec,rfl⟩
 rw[gV]
 have e:c=k:=by
  rcases Nat.lt_trichotomy c k with av|heq|zA
  .have:=rj m d (show c+1<=k by omega);omega
  .exact heq
  .have:=rj m d (show k+1<=c by omega);simp only[ia]at this;omega
 subst e;congr 1;omega
def OT (H:FuncId->Code->Code->Prop) (lf f:Frame):Prop:=lf.mode=.run/\f.mode=.run/\∃c c' k k',lf.todo=.code c::k/\f.todo=.code c'::k'/\H f.fn c c'
def LP (H:FuncId->Code->Code->Prop) (f:Frame):Prop:=f.mode=.run/\∃c c' k',f.todo=.code c'::k'/\H f.fn c c'
structure uy (P:un) (S:Nat->Bool) (H:FuncId->Code->Code->Prop) (N:Nat) (HA:me) (HP:ep) (C:fu->nq->Prop)where
 a0:Question->Nat
 m1:Nat
 ans:fu->nq->Nat->Question->Nat
 ln:Nat
 q3:Pi->Nat->Frame->nq->fu->nq->Pi
 val:Frame->fu
 only:∀fn c c' c0,H fn c c'->CR P S (H fn) c0 c'->H fn c0 c'\/∃w,c0=.refuse w
 marked:S (P.funcs.size+P.globals.size)=false
 bare:∀o,gG S o=false
 EQ:∀v w w',Alike w w'->C v w'->C v w
 check:∀p lf f v cs,lZ P S H p lf f->OT H lf f->(∀q,v.tape v.drawn q=a0 q)->∃n g1 v1 e,runN P n (lone lf cs v)=.next (lone g1 cs v1)/\g1.mode=.panicking [e]/\e.v=val lf/\
  FD P S H p g1/\v1.heap=v.heap
 ha:∀p lf f v w2,lZ P S H p lf f->OT H lf f->WR P S (KS P S) N p v w2->C (val lf) v->HA (kB p) (cz N p) f w2
 pass:∀p lf f v w2 lc cs u' w3 fx bI,lZ P S H p lf f->OT H lf f->WR P S (KS P S) N p v w2->HP (kB p) (cz N p) f w2 u' w3 fx bI->(∀i,i<m1->∀q,v.tape (v.drawn+i) q=ans u' w3 i q)->
  ∃n u v1,1<=n/\runN P n (lone lf (lc::cs) v)=.next (lone (lc.finish u) cs v1)/\VR S (q3 p v.heap.size f w2 u' w3) u u'/\WR P S (KS P S) N (q3 p v.heap.size f w2 u' w3) v1 w3/\
   Le p (q3 p v.heap.size f w2 u' w3)/\fx=kB (q3 p v.heap.size f w2 u' w3)/\bI=cz N (q3 p v.heap.size f w2 u' w3)/\v1.tape=v.tape/\v1.drawn=v.drawn+m1/\v1.heap.size=v.heap.size+ln
structure Nd where
 p:Pi
 L:Nat
 f:Frame
 top:List Frame
 w:nq
section
variable (Q:un) (S:Nat->Bool) (H:FuncId->Code->Code->Prop) (N:Nat) (main:Bool) (base:List Frame) (Fin:pS) (HA:me) (HP:ep)
def Nd.ct (x:Nd):Prop:=CT Q main base Fin HA HP (kB x.p) (cz N x.p) x.f x.top x.w
def Nd.step (x:Nd) (w2:nq):GStep:=stepG Q main (jc x.f (x.top++base)) w2
def Nd.bad (x:Nd) (w2:nq):Prop:=
 Env (kB x.p) x.w w2/\
 ¬((∃w3 es f2 pT,x.step Q main base w2=.go (jc f2 (pT++base)) w3 es/\Fair (kB x.p) (cz N x.p) w2 w3 es/\CT Q main base Fin HA HP (aN (kB x.p) w2 w3) (aN (cz N x.p) w2 w3) f2 pT w3)\/
  (∃w3 es v b bs,base=b::bs/\x.step Q main base w2=.go (jc (b.finish v) bs) w3 es/\Fair (kB x.p) (cz N x.p) w2 w3 es/\Fin (aN (kB x.p) w2 w3) (aN (cz N x.p) w2 w3) v w3)\/
  (∃w3 es v,base=[]/\x.step Q main base w2=.ended (.done v) w3 es/\Fair (kB x.p) (cz N x.p) w2 w3 es/\Fin (aN (kB x.p) w2 w3) (aN (cz N x.p) w2 w3) v w3)\/
  (HA (kB x.p) (cz N x.p) x.f w2/\∃c rest,x.top=c::rest/\∀v w3 fx bI,HP (kB x.p) (cz N x.p) x.f w2 v w3 fx bI->CT Q main base Fin HA HP fx bI (c.finish v) rest w3))
def Nd.US (x:Nd) (h:¬x.ct Q N main base Fin HA HP):∃w2,x.bad Q N main base Fin HA HP w2:=by
 refine zBK λhn=>h (CT.mk λw2 he=>?_);exact zBK λhx=>hn ⟨w2,he,hx⟩
def Nd.out (x:Nd) (w2:nq) (o:fu×nq):Prop:=
 ∃c rest fx bI,x.top=c::rest/\HP (kB x.p) (cz N x.p) x.f w2 o.1 o.2 fx bI/\¬CT Q main base Fin HA HP fx bI (c.finish o.1) rest o.2
open Classical in
def Nd.pick (x:Nd):nq:=if h:∃w2,x.bad Q N main base Fin HA HP w2 then h.choose else x.w
def Nd.xL (x:Nd) (h:¬x.ct Q N main base Fin HA HP):x.bad Q N main base Fin HA HP (x.pick Q N main base Fin HA HP):=by
 have:=x.US Q N main base Fin HA HP h;unfold Nd.pick;rw[dif_pos this];exact this.choose_spec
open Classical in
def Nd.fP (x:Nd):fu×nq:=
 if h:∃o,x.out Q N main base Fin HA HP (x.pick Q N main base Fin HA HP) o then h.choose else(undef,x.w)
def Nd.zB (x:Nd) (h:∃o,x.out Q N main base Fin HA HP (x.pick Q N main base Fin HA HP) o):x.out Q N main base Fin HA HP (x.pick Q N main base Fin HA HP) (x.fP Q N main base Fin HA HP):=by
 unfold Nd.fP;rw[dif_pos h];exact h.choose_spec
end
section
variable {P:un} (Q:un) {S:Nat->Bool} {H:FuncId->Code->Code->Prop} {N:Nat} (main:Bool) (base:List Frame) (Fin:pS) {HA:me} {HP:ep} {C:fu->nq->Prop} (hl:uy P S H N HA HP C)
open Classical in
def Nd.nx (x:Nd):Nd:=
 if LP H x.f then
  match x.top with
  |c::rest=>⟨hl.q3 x.p x.L x.f (x.pick Q N main base Fin HA HP) (x.fP Q N main base Fin HA HP).1 (x.fP Q N main base Fin HA HP).2,x.L+hl.ln,c.finish (x.fP Q N main base Fin HA HP).1,rest,(x.fP Q N main base Fin HA HP).2⟩
  | []=>x
 else match x.step Q main base (x.pick Q N main base Fin HA HP)with
 |.go g w3 _=>⟨ext x.p x.L (x.pick Q N main base Fin HA HP).heap.size (w3.heap.size-(x.pick Q N main base Fin HA HP).heap.size),x.L+(w3.heap.size-(x.pick Q N main base Fin HA HP).heap.size),
    g.frame,g.callers.take (g.callers.length-base.length),w3⟩
 |_=>x
def Nd.path (x:Nd):Nat->Nd
 |0=>x
 |k+1=>(Nd.path x k).nx Q main base Fin hl
open Classical in
def Nd.cnt (x:Nd):Nat:=
 if LP H x.f then hl.m1 else(gw (x.step Q main base (x.pick Q N main base Fin HA HP))).drawn-(x.pick Q N main base Fin HA HP).drawn
open Classical in
def Nd.piece (x:Nd) (i:Nat):Question->Nat:=
 if LP H x.f then hl.ans (x.fP Q N main base Fin HA HP).1 (x.fP Q N main base Fin HA HP).2 i else(x.pick Q N main base Fin HA HP).tape ((x.pick Q N main base Fin HA HP).drawn+i)
end
instance : Inhabited (Question -> Nat) := ⟨λ_ => 0⟩
def Ends (P:un) (fr:Frame) (w1:nq):Prop:=(∃v,fr.leaving P w1 (.returned v))\/∃ch,fr.leaving P w1 (.panicked ch)
def Ends.after {P:un} (h:Ends P fr w1):∃b,step P (lone fr [Base P] w1)=.next (lone b [] w1)/\∃o w2,step P (lone b [] w1)=.ended o w2:=by
 rcases h with⟨v,h⟩|⟨ch,h⟩
 .exact⟨_,step_leave_returned h,hU P v w1⟩
 .exact⟨_,step_leave_panicked h,fO P ch w1⟩
def before {P:un} {m0:Machine} (h:runN P n m0=.next (lone fr [Base P] w1)) (he:Ends P fr w1) {ν:Nat} {gs:List Frame} {v:nq}
 (hv:runN P ν m0=.next (lone g (gs++[Base P]) v)):ν<=n/\runN P (n-ν) (lone g (gs++[Base P]) v)=.next (lone fr [Base P] w1):=by
 obtain⟨b,h1,o,w2,h2⟩:=he.after
 have hle:ν<=n:=by
  rcases zCX n ν with av|By
  .exfalso;obtain⟨j,rfl⟩:∃j,ν=(n+1)+j:=⟨ν-(n+1),by omega⟩
   rw[runN_add,us P n _ _ h,h1]at hv;cases j with
   |zero=>
    simp only[runN,Stepped.next.injEq]at hv;have:=(fJ hv).2.1;simp at this
   |succ j=>simp only[runN,h2]at hv;cases hv
  .exact By
 refine⟨hle,?_⟩;have:n=ν+(n-ν):=by omega
 rw[this,runN_add,hv]at h;exact h
def zC {P:un} {b:Frame} {v1:nq} (h:runN P r σ=.next (lone fr [Base P] w1)) (hs:step P σ=.next (lone b [] v1)) (hb:∃o w2,step P (lone b [] v1)=.ended o w2):r=0/\σ=lone fr [Base P] w1:=by
 obtain⟨o,w2,hb⟩:=hb;cases r with
 |zero=>simp only[runN,Stepped.next.injEq]at h;exact⟨rfl,h⟩
 |succ r=>
  exfalso;simp only[runN,hs]at h;cases r with
  |zero=>
   simp only[runN,Stepped.next.injEq]at h;have:=(fJ h).2.1;simp at this
  |succ r=>simp only[runN,hb]at h;cases h
def zD {P:un} {o:Outcome} (h:runN P r σ=.next (lone fr [Base P] w1)) (he:Ends P fr w1) (hs:step P σ=.ended o w2):False:=by
 cases r with
 |zero=>
  simp only[runN,Stepped.next.injEq]at h;obtain⟨b,h1,_⟩:=he.after;rw[h,h1]at hs;cases hs
 |succ r=>simp only[runN,hs]at h;cases h
def FL.above {P:un} {S:Nat->Bool} {H:FuncId->Code->Code->Prop} {p:Pi} (h:FL P S H p (f::t) (f'::t')) {c c':Code} (hh:H f'.fn c c'):∃g g' r r',t=g::r/\t'=g'::r'/\FL P S H p (g::r) (g'::r')/\(S JK=true->lg g):=by
 cases h with
 |one h r=>exact absurd (h.fn▸hh) (r.2 c c')
 |cons h k BH=>
  cases k with
  |one h r=>exact⟨_,_,_,_,rfl,rfl,.one h r,λhj=>BH hj _ rfl⟩
  |cons h t LM=>exact⟨_,_,_,_,rfl,rfl,.cons h t LM,λhj=>BH hj _ rfl⟩
section
variable {P:un} {F:Array Func} {S:Nat->Bool} {H:FuncId->Code->Code->Prop} {N:Nat} {HA:me} {HP:ep} {C:fu->nq->Prop}
def LQ {p:Pi} (hl:uy P S H N HA HP C) (hf:FL P S H p (f::t) (f'::t')) (hh:LP H f'):OT H f f'\/∃w k,f.todo=.code (.refuse w)::k/\f.mode=.run:=by
 obtain⟨hm,c,c',k',ht,hH⟩:=hh;have j7:=hf.head.mode;rw[hm]at j7;have bp:f.mode=.run:=by generalize f.mode=o at j7;cases j7;rfl
 have Jk:=hf.head.todo;rw[ht]at Jk
 have key:∀x,f.todo=x->TL P S (H f.fn) p x (.code c'::k')->OT H f f'\/∃w k,f.todo=.code (.refuse w)::k/\f.mode=.run:=by
  intro x hx Jk;cases Jk with
  |cons hi Jk=>
   cases hi with
   | @code c0 _ SX=>
     rcases hl.only _ c c' c0 hH (hf.head.fn▸SX)with h|⟨w,h⟩
     .exact .inl ⟨bp,hm,c0,c',_,k',hx,ht,h⟩
     .rw[h]at hx;exact .inr ⟨w,_,hx,bp⟩
 exact key _ rfl Jk
def xM {p:Pi} (hc:Closed P F S H) (hg:jl P S p) {lf:Frame} {uv top:List Frame} {w:nq} (hw:WR P S (KS P S) N p lw w)
 (hf:FL P S H p (lf::uv) (f::top)) {R:fu->nq->Prop} (hl:uy P S H N HA HP C) (Jl:Bar P lf uv lw R C) (main:Bool) (base:List Frame) (hb:UO P S main base):
 CT (ae P F) main base (uw P S N p R) HA HP (kB p) (cz N p) f top w:=by
 refine zBK λhct=>?_;let Fin:=uw P S N p R
 let x0:Nd:=⟨p,lw.heap.size,f,top,w⟩
 have xE:¬x0.ct (ae P F) N main base Fin HA HP:=hct;let X:=λk=>Nd.path (ae P F) main base Fin hl x0 k
 let pk:=λk=>(X k).pick (ae P F) N main base Fin HA HP
 let m:=λk=>(X k).cnt (ae P F) main base Fin hl
 let D:=λk=>ia m lw.drawn k
 let start:=λT:Nat->Question->Nat=>lone lf (uv++[Base P]) {lw with tape:=T}
 have inv:∀k (T:Nat->Question->Nat),(∀j,j<k->∀i,i<m j->T (D j+i)=(X j).piece (ae P F) main base Fin hl i)->∃ν g gs v,k<=ν/\runN P ν (start T)=.next (lone g (gs++[Base P]) v)/\WR P S (KS P S) N (X k).p v (X k).w/\
  FL P S H (X k).p (g::gs) ((X k).f::(X k).top)/\jl P S (X k).p/\v.tape=T/\v.drawn=D k/\v.heap.size=(X k).L/\(¬(X k).ct (ae P F) N main base Fin HA HP)/\Le p (X k).p:=by
  intro k;induction k with
  |zero=>intro T _;exact⟨0,lf,uv,{lw with tape:=T},zAB _,rfl,hw.tape T lw.drawn,hf,hg,rfl,rfl,rfl,xE,Le.refl p⟩
  |succ k ih=>
   intro T hT;obtain⟨ν,g,gs,v,e0,e1,e2,e3,e4,e5,e6,e7,e8,e9⟩:=ih T λj hj i hi=>hT j (by omega) i hi;obtain⟨zE,uu⟩:=(X k).xL (ae P F) N main base Fin HA HP e8;have zF:WR P S (KS P S) N (X k).p v (pk k):=e2.env zE;obtain⟨n,fr,w1,c1,c2⟩:=Jl T
   have og:Ends P fr w1:=by
    rcases c2 with⟨rv,h,_⟩|⟨e,ch,h,_⟩
    .exact .inl ⟨rv,h⟩
    .exact .inr ⟨_,h⟩
   obtain⟨hle,sm⟩:=before c1 og e1;by_cases mg:LP H (X k).f
   ·
    rcases LQ hl e3 mg with hh|⟨ws,kk,hrf,hrm⟩
    .have wM:m k=hl.m1:=by show Nd.cnt _ _ _ _ hl (X k)=_;unfold Nd.cnt;rw[zAF mg]
     obtain⟨lc,fc,BU,rest,hgs,lh,Jm,Lj⟩:∃lc fc BU rest,gs=lc::BU/\(X k).top=fc::rest/\FL P S H (X k).p (lc::BU) (fc::rest)/\(S JK=true->lg lc):=by
      obtain⟨_,_,c,c',_,_,_,_,hH⟩:=hh;obtain⟨lc,fc,lr,r,h1,h2,h3⟩:=e3.above hH;exact⟨lc,fc,lr,r,h1,h2,h3⟩
     have uz:HA (kB (X k).p) (cz N (X k).p) (X k).f (pk k):=by
      let T2:Nat->Question->Nat:=λi=>if i<D k then T i else hl.a0
      have hT2:∀j,j<k->∀i,i<m j->T2 (D j+i)=(X j).piece (ae P F) main base Fin hl i:=λj hj i hi=>by
       have h1:=rj m lw.drawn (show j+1<=k by omega);simp only[ia]at h1;have:D j+i<D k:=by show ia m lw.drawn j+i<ia m lw.drawn k;omega
       show(if D j+i<D k then T (D j+i)else hl.a0)=_;rw[zAF this];exact hT j (by omega) i hi
      obtain⟨ν2,g2,SY,v2,_,f1,f2,f3,_,f5,f6,_,_,_⟩:=ih T2 hT2;have hh2:OT H g2 (X k).f\/_:=LQ hl f3 mg;obtain⟨n2,fr2,w3,d1,d2⟩:=Jl T2
      have zG:Ends P fr2 w3:=by
       rcases d2 with⟨rv,h,_⟩|⟨e,ch,h,_⟩
       .exact .inl ⟨rv,h⟩
       .exact .inr ⟨_,h⟩
      obtain⟨_,UT⟩:=before d1 zG f1;rcases hh2 with hh2|⟨ws,kk,hrf,hrm⟩
      .obtain⟨nn,g3,v3,e,p1,p2,p3,p4,p5⟩:=hl.check (X k).p g2 (X k).f v2 (SY++[Base P]) f3.head hh2 (λq=>by
        rw[f5,f6];show(if D k<D k then T (D k)else hl.a0) q=hl.a0 q;rw[zAG (Nat.lt_irrefl _)])
       have hgo:runN P (ν2+nn) (start T2)=.next (lone g3 (SY++[Base P]) v3):=by rw[runN_add,f1];exact p1
       obtain⟨_,UU⟩:=before d1 zG hgo;have hw3:WR P S (KS P S) N (X k).p v3 (X k).w:=⟨f2.inj,λr r' h=>by rw[p5];exact f2.blk r r' h,by rw[p5];exact f2.low,f2.fix,by rw[p5];exact f2.gE,f2.kq,f2.str,f2.wG⟩
       have hfd:∀x∈SY,FD P S H (X k).p x:=λx hx=>f3.fd x (by simp[hx]);obtain⟨Hg,q1,q2,q3⟩:=ut _ g3 SY v3 (X k).w [e] e p2 rfl p4 hfd hw3 fr2 w3 UU zG;rcases d2 with⟨rv,h,_⟩|⟨e',XN,h,hC,_⟩
       .have:=h.1;rw[q1]at this;cases this
       .have:=h.1;rw[q1]at this;simp only[FrameMode.panicking.injEq]at this;subst this;simp only[List.head?_cons,zAA]at q2;subst q2;rw[p3]at hC;have SZ:Alike v2 w3:=λr=>by have:=q3 r;rw[p5]at this;exact this
        exact hl.ha (X k).p g2 (X k).f v2 (pk k) f3.head hh2 (f2.env zE) (hl.EQ _ _ _ SZ hC)
      .exact(zD UT zG (step_lone_ended (o:=.unsupported _ (g2.pos P)) (w':=v2) (by
        unfold stepG;simp only[hrm];unfold stepG.exec;simp only[hrf];rfl))).elim
     have Jn:∃o,(X k).out (ae P F) N main base Fin HA HP (pk k) o:=by
      refine zBK λiP=>uu (.inr (.inr (.inr ⟨uz,fc,rest,lh,λv w3 fx bI hp=>?_⟩)));exact zBK λhx=>iP ⟨(v,w3),fc,rest,fx,bI,lh,hp,hx⟩
     obtain⟨fc2,Y6,fx,bI,S0,hHP,UV⟩:=(X k).zB (ae P F) N main base Fin HA HP Jn;rw[lh]at S0;obtain⟨rfl,rfl⟩:fc=fc2/\rest=Y6:=by simpa using S0
     obtain⟨nn,u,v1,p0,p1,p2,p4,p5,p6,p7,p8,p9,p10⟩:=hl.pass (X k).p g (X k).f v (pk k) lc (BU++[Base P]) _ _ fx bI e3.head hh zF hHP (λi hi q=>by
      have:=hT k (by omega) i (by rw[wM];exact hi);rw[e5,e6,this];unfold Nd.piece;rw[zAF mg])
     have Lp:X (k+1)=⟨hl.q3 (X k).p (X k).L (X k).f (pk k) ((X k).fP (ae P F) N main base Fin HA HP).1 ((X k).fP (ae P F) N main base Fin HA HP).2,(X k).L+hl.ln,fc.finish ((X k).fP (ae P F) N main base Fin HA HP).1,rest,((X k).fP (ae P F) N main base Fin HA HP).2⟩:=by
      show(X k).nx (ae P F) main base Fin hl=_;unfold Nd.nx;rw[zAF mg,lh]
     rw[Lp];rw[e7]at p2 p4 p5 p6 p7;refine⟨ν+nn,lc.finish u,BU,v1,by omega,by rw[runN_add,e1,hgs];exact p1,p4,(Jm.mono p5).top ((Jm.mono p5).head.finish p2 λhj=>(Lj hj).fits _) (ei _ _),e4.mono p5,p8.trans e5,?_,by rw[p10,e7],?_,e9.trans p5⟩
     .rw[p9,e6];show D k+hl.m1=ia m lw.drawn k+m k;rw[wM]
     .unfold Nd.ct;rw[<-p6,<-p7];exact UV
    .exact(zD sm og (step_lone_ended (o:=.unsupported _ (g.pos P)) (w':=v) (by
      unfold stepG;simp only[hrm];unfold stepG.exec;simp only[hrf];rfl))).elim
   ·
    have wM:m k=(gw ((X k).step (ae P F) main base (pk k))).drawn-(pk k).drawn:=by show Nd.cnt _ _ _ _ hl (X k)=_;unfold Nd.cnt;rw[zAG mg]
    have ES:lS (m k) v (pk k):=λj hj q=>by
     have:=hT k (by omega) j hj;rw[e5,e6,this];unfold Nd.piece;rw[zAG mg]
    have hd:(gw (stepG (ae P F) main {frame:=(X k).f,callers:=(X k).top++base,status:=.running,dying:=none} (pk k))).drawn<=(pk k).drawn+m k:=by
     rw[wM];show(gw ((X k).step (ae P F) main base (pk k))).drawn<=(pk k).drawn+((gw ((X k).step (ae P F) main base (pk k))).drawn-(pk k).drawn)
     omega
    have UW:=dH.step (b:=Base P) (bs:=[]) (aZ:=base) hc zF e4 e3 (λc c' k1 k1' hm h1 h2 hH=>mg ⟨by
     have j7:=e3.head.mode;rw[hm]at j7;generalize(X k).f.mode=o at j7;cases j7;rfl,c,c',k1',h2,e3.head.fn▸hH⟩) (λ⟨_,o,_,_,_,_,_,_,h5,_⟩=>by rw[hl.bare o.op]at h5;cases h5) true main hb ES hd
    rcases UW with⟨o,w3,es,hs⟩|⟨q,ch,XN,w3,es,G9,hs⟩|⟨c,nn,v1,w3,es,dk,hm,Y7,kC⟩
    .exact(zD sm og (step_lone_ended (o:=o) (w':=w3) (by rw[hs];rfl))).elim
    .exfalso;have cn:step P (lone g (gs++[Base P]) v)=.next (lone ((Base P).raise ch) [] w3):=step_lone_go (by rw[hs];rfl);obtain⟨_,hσ⟩:=zC sm cn (fO P ch w3);rw[hσ]at cn;rcases c2 with⟨rv,h,_⟩|⟨e,Hg,h,_,hnv⟩
     .rw[step_leave_returned h]at cn;simp only[Stepped.next.injEq]at cn;have q1:=(fJ cn).1;rw[d8]at q1;have:=zBB (λf:Frame=>f.mode) q1;simp[Base,Frame.raise]at this
     .rw[step_leave_panicked h]at cn;simp only[Stepped.next.injEq]at cn;have q1:=zBB (λf:Frame=>f.mode) (fJ cn).1;simp only[Base,Frame.raise,FrameMode.panicking.injEq]at q1;rw[<-q1]at G9;cases G9 with
      |cons b1 b2 hv _=>exact hnv S q _ hl.marked hv
    .obtain⟨uA,sn,qT⟩:=cQ.fair zF hm Y7;rcases kC with⟨f2,PP,t2,PQ,Jm,hs,wA⟩|⟨UX,ET,hv,hs,wA⟩
     .have cn:step P (lone g (gs++[Base P]) v)=.next (lone f2 (t2++[Base P]) v1):=step_lone_go (by rw[hs];rfl);have nS:=us P ν _ _ e1;rw[cn]at nS;have j8:(X k).step (ae P F) main base (pk k)=.go (jc PP (PQ++base)) w3 dk:=wA
      have Lp:X (k+1)=⟨ext (X k).p (X k).L (pk k).heap.size c,(X k).L+c,PP,PQ,w3⟩:=by
       show(X k).nx (ae P F) main base Fin hl=_;unfold Nd.nx;rw[zAG mg];have zH:(X k).step (ae P F) main base ((X k).pick (ae P F) N main base Fin HA HP)=.go (jc PP (PQ++base)) w3 dk:=wA;rw[zH]
       have cr:w3.heap.size-((X k).pick (ae P F) N main base Fin HA HP).heap.size=c:=by
        have h6:w3.heap.size=(pk k).heap.size+c:=hm.my;show w3.heap.size-(pk k).heap.size=c;rw[h6,zCT]
       simp only[cr];congr 1;rw[zAZ,Nat.add_sub_cancel];exact List.take_left
      rw[Lp];have hrel:=hm.rel;rw[e7]at hrel Jm sn qT;have Jo:=fG (X k).p (X k).L (pk k).heap.size c;refine⟨ν+1,f2,t2,v1,by omega,nS,hrel,Jm,e4.mono Jo,hm.tape.trans e5,?_,by rw[hm.size,e7],?_,e9.trans Jo⟩
      .rw[hm.drawn,e6]
       have:m k=nn:=by
        rw[wM,j8];have h5:w3.drawn=(pk k).drawn+nn:=hm.mz;show w3.drawn-(pk k).drawn=nn;rw[h5,zCT]
       show D k+nn=ia m lw.drawn k+m k;rw[this]
      .intro EU;refine uu (.inl ⟨w3,dk,PP,PQ,j8,uA,?_⟩);unfold Nd.ct at EU;rw[sn,qT]at EU;exact EU
     .exfalso;have cn:step P (lone g (gs++[Base P]) v)=.next (lone ((Base P).finish UX) [] v1):=step_lone_go (by rw[hs];rfl);obtain⟨_,hσ⟩:=zC sm cn (hU P UX v1);rw[hσ]at cn;rcases c2 with⟨rv,h,hR⟩|⟨e,Hg,h,_⟩
      .rw[step_leave_returned h]at cn;simp only[Stepped.next.injEq]at cn;obtain⟨q1,_,q3⟩:=fJ cn;rw[d8,d8]at q1
       have Bj:rv=UX:=by
        have:=zBB (λf:Frame=>f.tmps) q1;simpa using this
       subst Bj;subst q3;have uB:Fin (aN (kB (X k).p) (pk k) w3) (aN (cz N (X k).p) (pk k) w3) ET w3:=⟨_,rv,w1,hR,hv,hm.rel,e9.trans (fG _ _ _ _),sn.symm,qT.symm⟩
       rcases wA with⟨b',zx,mK,wA⟩|⟨mK,wA⟩
       .exact uu (.inr (.inl ⟨w3,dk,ET,b',zx,mK,wA,uA,uB⟩))
       .exact uu (.inr (.inr (.inl ⟨w3,dk,ET,mK,wA,uA,uB⟩)))
      .rw[step_leave_panicked h]at cn;simp only[Stepped.next.injEq]at cn;have q1:=(fJ cn).1;rw[d8]at q1;have:=zBB (λf:Frame=>f.mode) q1;simp[Base,Frame.raise]at this
 obtain⟨T,hT⟩:=splice m (λk j=>(X k).piece (ae P F) main base Fin hl j) lw.drawn;obtain⟨n,fr,w1,c1,c2⟩:=Jl T
 have og:Ends P fr w1:=by
  rcases c2 with⟨rv,h,_⟩|⟨e,ch,h,_⟩
  .exact .inl ⟨rv,h⟩
  .exact .inr ⟨_,h⟩
 obtain⟨ν,g,gs,v,e0,e1,_⟩:=inv (n+1) T λj _ i hi=>hT j i hi;obtain⟨hle,_⟩:=before c1 og e1;omega
end
end Go.aC
end
