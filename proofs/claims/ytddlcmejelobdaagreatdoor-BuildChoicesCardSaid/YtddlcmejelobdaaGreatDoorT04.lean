/- A part. Conditions: none. -/
import Derived.Test.YtddlcmejelobdaaGreatDoorT03
set_option linter.all false
noncomputable section
namespace Go.aD
variable {a:Code} {c i m n r r':Nat} {dY t t':List Frame} {de tmps xs:Array fu} {es:Array Event} {f f' fr g:Frame} {iO lw w1 w2:nq} {k l l':List Item} {kn own:Nat->Prop} {o:Oper} {ops:Array Oper} {rest:List Nat} {s':GStep} {v v':fu} {α β:Type} {σ:Machine}
section
variable {P:un} {F:Array Func} {S:Nat->Bool} {K:Kz} {N:Nat} {p:Pi}
def SR.mono {Q Q':Pi->α->β->Prop} {s:Sem α} {s':Sem β} (g:∀q a b,Le p q->Q q a b->Q' q a b) (h:SR P F S K N Q s s' p):SR P F S K N Q' s s' p:=by
 have:=h.bind (f:=Pure.pure) (f':=Pure.pure) λq a b hq x=>SR.pure (g q a b hq x);simpa using this
def SR.H7 (Bz:p.l=true->S 999999=false) {r r':Operand->fu} (h:tX P S p r r') (o:Oper) {t:a00} {x:Operand} {lo hi mx:Option Operand} (ho:o.op=.slice t x lo hi mx) (cn:∀y∈o.op.operands,iX P S y=true) (hE:p.l=true->sf (r x)=true):
 SR P F S K N (λq n n'=>QX S K q n n'\/(p.l=true/\mx=none/\∃v v',n=.value v/\n'=.value v'/\PR q (r x) v v')) (Go.execOp r o) (Go.execOp r' o) p:=by
 unfold Go.execOp;obtain⟨dst,op,ty,pos,af,gd⟩:=o;simp only at ho cn⊢;subst ho;simp only
 have key:SR P F S K N (λq v v'=>VR S q v v'\/(p.l=true/\mx.map r=none/\PR q (r x) v v')) (Instr.sliceAt t (r x) (lo.map r) (hi.map r) (mx.map r)) (Instr.sliceAt t (r' x) (lo.map r') (hi.map r') (mx.map r')) p:=by
  have hx:=h.at (cn x (by simp[Op.operands]))
  have h1:OV S p (lo.map r) (lo.map r'):=h.opt λy hy=>cn y (by simp[Op.operands,hy]);have h2:OV S p (hi.map r) (hi.map r'):=h.opt λy hy=>cn y (by simp[Op.operands,hy]);have h3:OV S p (mx.map r) (mx.map r'):=h.opt λy hy=>cn y (by simp[Op.operands,hy]);unfold Instr.sliceAt;refine SR.cT λu hu=>?_;cases u with
  |array n e=>
   refine(SR.sureAddr hx).bind λq a a' hq ha=>?_;refine(SR.sliceBounds false n n (h1.mono hq) (h2.mono hq) (h3.mono hq)).aE λq2 b cW=>?_;obtain⟨l,hh,m⟩:=b;simp only;refine(SR.sizeOf e).aE λq3 s iP=>?_;have ha:=(ha.mono cW).mono iP;refine SR.ok λho=>?_;have je:=λr=>noX (λx=>Bz (((hq.trans cW).trans iP).l.symm.trans x)) ho r;split
   .exact SR.pure (.inl (ha.sl (je _) _ _))
   .exact SR.pure (.inl ((ha.add _).sl (je _) _ _))
  |_=>exact SR.slice Bz t hx (λhl b l c e=>yn (hE hl) e) h1 h2 h3
 exact key.bind λq v v' hq hv=>SR.pure (hv.elim (λa=>.inl (.value a)) λa=>.inr ⟨a.1,by cases mx<;>simp_all,v,v',rfl,rfl,a.2.2⟩)
def SR.execOp (U4:p.l=true->S JK=false) (hz:bC P) (hc:aN P) (hb:se P F S) {r r':Operand->fu} (h:tX P S p r r') (o:Oper) (ho:qI P S o.op=true) (hs:p.l=true->Tf o.op=true) (hE:p.l=true->mN r o.op=true) (hk:S JK=true->zJ P r o.op):SR P F S K N (QX S K) (Go.execOp r o) (Go.execOp r' o) p:=by
 unfold Go.execOp;obtain⟨dst,op,ty,pos,af,gd⟩:=o;simp only at ho⊢;unfold qI at ho;simp only[zAF]at ho;obtain⟨ve,cr⟩:=ho
 have cn:∀x∈op.operands,iX P S x=true:=by
  intro x hx;obtain⟨i,hi,he⟩:=zCJ.1 hx;have:=zBP.1 ve i hi;rw[he]at this;exact this
 cases op<;>try(simp only[zAL]at cr)
 case move x=>exact SR.pure (.value (h.at (cn x (by simp[Op.operands]))))
 case assign x=>exact SR.pure (.value (h.at (cn x (by simp[Op.operands]))))
 case pick c a b=>
  refine(SR.asBool (h.at (cn c (by simp[Op.operands])))).aE λq t hq=>?_;cases t with
  |true=>exact SR.pure (.value ((h.at (cn a (by simp[Op.operands]))).mono hq))
  |false=>exact SR.pure (.value ((h.at (cn b (by simp[Op.operands]))).mono hq))
 case alloc e=>exact SR.dk (SR.alloc hz e)
 case box e x=>exact SR.dk (SR.box e (h.at (cn x (by simp[Op.operands]))))
 case build t ps=>
  refine SR.dk (SR.build hz t ?_);rw[zFW,zFW];refine PL.map _ r r' λx hx=>h.at (cn x.2 ?_)
  simp only[Op.operands,zFX,zBY];exact⟨x,hx,rfl⟩
 case buildSlice t n ps=>
  refine SR.dk (SR.buildSlice hz t n ?_);rw[zFW,zFW];refine PL.map _ r r' λx hx=>h.at (cn x.2 ?_)
  simp only[Op.operands,zFX,zBY];exact⟨x,hx,rfl⟩
 case load t a=>exact SR.dk (SR.loadAt t (h.at (cn a (by simp[Op.operands]))))
 case store t a x=>exact SR.Mr (SR.storeAt t (h.at (cn a (by simp[Op.operands]))) (h.at (cn x (by simp[Op.operands]))))
 case nilCheck x=>
  have hx:=h.at (cn x (by simp[Op.operands]))
  dsimp only;revert hx;generalize r x=v;generalize r' x=v';intro hx;have BA:=hx;cases hx with
  |xt=>exact SR.nilDeref
  |nilIface=>exact SR.nilDeref
  |nilFunc=>exact SR.nilDeref
  |E6 hl hj n xs ys=>exact SR.lS (.inr ⟨hl,U8 (hb.1 hj) _⟩) rfl
  |rV hl hj hv=>
   cases v'<;>first|(cases hv;done)|exact SR.pure (Q:=QX S K) (NX.value BA)|skip
   .rename_i a;cases a<;>first|(cases hv;done)|exact SR.pure (Q:=QX S K) (NX.value BA)
   .rename_i f xs ys;cases f<;>first|(cases hv;done)|exact SR.pure (Q:=QX S K) (NX.value BA)
  |_=>exact SR.pure (Q:=QX S K) (NX.value BA)
 case binOp op t x y t2=>
  have hx:=h.at (cn x (by simp[Op.operands]))
  have hy:=h.at (cn y (by simp[Op.operands]))
  by_cases hj:p.l=false/\(op=.eql\/op=.neq)/\(r x=.tuple #[]\/r y=.tuple #[])
  ·
   obtain⟨hl,hj⟩:=hj
   have hd:aF P (Go.eqGuard op t x y (r x) (r y)>>=λ_=>Go.binOp op t (r x) (r y))/\zB (Go.eqGuard op t x y (r x) (r y)>>=λ_=>Go.binOp op t (r x) (r y))=true:=by
    have hnp:fW (r x) (r y)=false:=by rcases hj.2 with e|e<;>rw[e]<;>cases r x<;>cases r y<;>rfl
    have hg:Go.eqGuard op t x y (r x) (r y)=Pure.pure ():=by
     rcases hj.1 with rfl|rfl
     .rw[rW];rcases hj.2 with e|e<;>rw[e]<;>cases r x<;>cases r y<;>rfl
     .rw[rX];rcases hj.2 with e|e<;>rw[e]<;>cases r x<;>cases r y<;>rfl
    rw[hg];show aF P (Go.binOp op t (r x) (r y))/\zB (Go.binOp op t (r x) (r y))=true;rcases hj.1 with rfl|rfl
    .simp only[pg,zAF]at cr;rw[aD.uw t hnp hj.2];exact⟨aF.bind (lU cr.1 hj.2) _,lV _⟩
    .simp only[pg,zAF]at cr;rw[aD.ux t hnp hj.2];exact⟨aF.bind (lU cr.1 hj.2) _,lV _⟩
   exact SR.dk (SR.lS (.inr ⟨hl,hd.1⟩) hd.2)
  .refine SR.dk ((SR.eqGuard op t cr x y hx hy λh1 h2=>hj ⟨h1,h2⟩).aE λq _ hq=>SR.binOp hc op t cr (hx.mono hq) (hy.mono hq))
 case unOp op t x=>exact SR.dk (SR.unary op (h.at (cn x (by simp[Op.operands]))))
 case convert s d x=>exact SR.dk (SR.convert s d cr (h.at (cn x (by simp[Op.operands]))))
 case makeFunc fn fs cs=>
  cases fn<;>simp only[zAL]at cr;rename_i f;have h1:AR S p (fs.map r) (fs.map r'):=h.many λx hx=>cn x (by simp[Op.operands,hx]);have h2:AR S p (cs.map r) (cs.map r'):=h.many λx hx=>cn x (by simp[Op.operands,hx]);exact SR.pure (.value (.func cr h1.1 h2.1 h1.2 h2.2))
 case makeMap t rs=>
  cases rs<;>simp only[zAL]at cr;exact SR.dk (SR.makeMap t)
 case makeSlice t l c=>exact SR.dk (SR.makeSlice hz t (h.at (cn l (by simp[Op.operands]))) (h.at (cn c (by simp[Op.operands]))))
 case slice t x lo hi mx=>
  have hl:p.l=true->False:=λh=>by have:=hs h;cases this
  exact SR.mono (λq n n' _ h=>h.elim id λh=>(hl h.1).elim) (SR.H7 (λh=>(hl h).elim) h ⟨dst,.slice t x lo hi mx,ty,pos,af,gd⟩ rfl cn λh=>(hl h).elim)
 case fieldAddr t x f=>
  refine SR.dk (SR.fieldAt t f ?_ (h.at (cn x (by simp[Op.operands]))));intro fs g i hu hg hi;simp only[hu,hg,hi]at cr;simpa using cr
 case field t x f=>exact SR.dk (SR.field t f (h.at (cn x (by simp[Op.operands]))))
 case indexAddr t x i=>exact SR.dk (SR.indexAt t (h.at (cn x (by simp[Op.operands]))) (h.at (cn i (by simp[Op.operands]))))
 case index t x i=>exact SR.dk (SR.index t (h.at (cn x (by simp[Op.operands]))) (h.at (cn i (by simp[Op.operands]))))
 case lookup t x i ok=>
  exact SR.dk (SR.lookup hz hc t cr ok (h.at (cn x (by simp[Op.operands]))) (h.at (cn i (by simp[Op.operands]))))
 case mapUpdate t m k x=>
  simp only[zAF,zBQ,zCO]at cr
  have hJ:S JK=true->hU P t=true\/Mm P t=true:=λh=>by
   rcases cr.2 with(h2|h2)|h2
   .rw[h]at h2;cases h2
   .exact .inl h2
   .exact .inr h2
  exact SR.Mr (SR.mapUpdate U4 hc t hJ cr.1 hk (h.at (cn m (by simp[Op.operands]))) (h.at (cn k (by simp[Op.operands]))) (h.at (cn x (by simp[Op.operands]))))
 case extract x i=>exact SR.dk (SR.extract (h.at (cn x (by simp[Op.operands]))) i)
 case call c=>
  obtain⟨cl,as,ts⟩:=c;have ha:AR S p (as.map r) (as.map r'):=h.many λx hx=>cn x (by simp[Op.operands,Call.operands,hx]);unfold vd at cr;cases cl<;>simp only[zAL]at cr;case value f=>exact SR.nu hb (h.at cr) ha
  case builtin b=>
   have hE2:p.l=true->∀a l c,(as.map r)[0]?=some (.slice (some a) l c)->a.spot=none:=by
    intro hl a l c e;have hE:=hE hl;rw[zCP]at e;cases h0:as[0]? with
    |none=>rw[h0]at e;cases e
    |some x=>
     rw[h0]at e;simp only[zBJ,zAB]at e;simp only[mN,h0]at hE;exact yn hE e
   cases b<;>simp only[zAL]at cr;case append=>exact SR.dk (SR.append hz ts cr ty ha hE2)
   case len=>exact SR.dk (SR.len ts cr ty ha)
   case copy=>exact SR.dk (SR.copy ts ty ha)
   case clear=>exact SR.dk (SR.clear hz ts ty ha)
   case max=>exact SR.dk (SR.max ts ty ha)
   case min=>exact SR.dk (SR.min ts ty ha)
end
def Ia (P:un):Op->Option Nat
 |.load t _=>if gW P t=true then some (uX P t)else none
 |_=>none
def Ms:Op->Bool
 |.load _ _=>true
 |_=>false
def Cg (P:un) (ops:Array Oper):Bool:=ops.any λo=>match o.op with|.mapUpdate t _ _ _=>!hU P t|_=>false
def Qb (P:un) (ops:Array Oper):Bool:=(List.range ops.size).all λi=>match ops[i]? with
 |some o=>(match o.op with
  |.mapUpdate t _ k _=>hU P t||(match k with
   |.tmp s=>ops.all (λo=>!(o.dst==some s)||Ia P o.op==some (qH P t))&&(List.range i).any (λj=>(ops[j]?).bind (·.dst)==some s)
   |_=>false)
  |_=>true)
 |none=>true
def KR (P:un) (ops:Array Oper) (is:List Nat) (tmps:Array fu):Prop:=Cg P ops=true->Qb P ops=true/\is.Pairwise (·<·)/\
 ∀s n,(∀o∈ops,o.dst=some s->Ia P o.op=some n)->(∃(j:Nat) (o:Oper),ops[j]?=some o/\o.dst=some s/\j∉is)->uY n (tmps.getD s undef)
def iY:Item->Bool
 |.inRegion _ _=>false
 |_=>true
def iZ (P:un) (tmps:Array fu):List Item->Prop
 | []=>True
 |it::k=>(∀x∈k,iY x=true)/\∀ops is,it=.inRegion ops is->KR P ops is tmps
def iZ.no {P:un} (h:∀x∈l,iY x=true):iZ P tmps l:=by
 cases l with
 |nil=>trivial
 |cons it k=>exact⟨λx hx=>h x (zAS _ hx),λops is e=>by have:=h it zBW;rw[e]at this;cases this⟩
def iZ.put {P:un} {it:Item} (hk:∀x∈k,iY x=true) (hi:iY it=true):iZ P tmps (it::k):=iZ.no λx hx=>by
 rcases zAQ.1 hx with rfl|hx
 .exact hi
 .exact hk x hx
def iZ.zey {P:un} {a b:Item} (hk:∀x∈k,iY x=true) (ha:iY a=true) (hb:iY b=true):iZ P tmps (a::b::k):=iZ.put (λx hx=>by
 rcases zAQ.1 hx with rfl|hx
 .exact hb
 .exact hk x hx) ha
def qJ (P:un) (o:Oper) (v:fu):Prop:=∀n,Ia P o.op=some n->uY n v
def lZ (f:Frame):Prop:=∀o,f.oper?=some o->Ms o.op=false
def lZ.fits {P:un} (h:lZ f) (v:fu):∀o,f.oper?=some o->qJ P o v:=λo ho n hn=>by
 have:=h o ho;cases hx:o.op<;>rw[hx]at hn this<;>first|cases hn|cases this
def pF (n:Nat):uY n undef:=λxs e=>by cases e
def KR.start {P:un} {S:Nat->Bool} (h:Qb P ops=true):KR P ops (List.range ops.size) tmps:=λ_=>⟨h,List.pairwise_lt_range,λs n _ ⟨j,o,hj,_,hn⟩=>absurd (zDB.2 (zAC.1 hj).1) hn⟩
def KR.done {P:un} (h:KR P ops (i::rest) tmps) (hv:∀o,ops[i]?=some o->qJ P o v):
 KR P ops rest (match(ops[i]?).bind (·.dst)with|some d=>tmps.setIfInBounds d v|none=>tmps):=λhs=>by
 obtain⟨h1,h2,h3⟩:=h hs;refine⟨h1,(zFM.1 h2).2,λs n cn ⟨j,o,hj,hd,hn⟩=>?_⟩;by_cases hi:(ops[i]?).bind (·.dst)=some s
 .rw[hi];simp only;obtain⟨oi,ho,hdi⟩:=zBH.1 hi;have hf:=hv oi ho n (cn oi (zDN ho) hdi);rw[zBA,zBL];split
  .split
   .exact hf
   .exact pF n
  .rename_i hx;exact absurd rfl hx
 .have Zv:j∉i::rest:=λhm=>by
   rcases zAQ.1 hm with rfl|hm
   .rw[hj]at hi;exact hi hd
   .exact hn hm
  have hold:=h3 s n cn ⟨j,o,hj,hd,Zv⟩;cases hb:(ops[i]?).bind (·.dst)with
  |none=>exact hold
  |some d=>
   simp only;have bu:d≠s:=λe=>by subst e;exact hi hb
   rw[zBA,zCV bu,<-zBA];exact hold
def KR.fits {P:un} (h:KR P ops (i::rest) tmps) (ho:ops[i]?=some o) {r:Operand->fu} (hr:∀s,r (.tmp s)=tmps.getD s undef):zJ P r o.op:=by
 unfold zJ;split
 .rename_i t m k x cr;intro hl
  have hs:Cg P ops=true:=by
   unfold Cg;obtain⟨au,he⟩:=zAC.1 ho;exact Array.any_eq_true.2 ⟨i,au,by rw[he,cr];simp[hl]⟩
  obtain⟨h1,h2,h3⟩:=h hs;have h4:=zCM.1 h1 i (zDB.2 (zAC.1 ho).1);simp only[ho,cr,hl,zDZ]at h4;cases k with
  |tmp s=>
   simp only[zAF]at h4;rw[hr];obtain⟨j,hj,hjd⟩:=List.any_eq_true.1 h4.2;have hjd:(ops[j]?).bind (·.dst)=some s:=by simpa using hjd
   obtain⟨oj,JA,Yd⟩:=zBH.1 hjd;refine h3 s _ (λo2 qK Ye=>?_) ⟨j,oj,JA,Yd,λhm=>?_⟩
   .have:=Array.all_eq_true_iff_forall_mem.1 h4.1 o2 qK;rw[Ye]at this;simpa using this
   .have au:=zDB.1 hj;rcases zAQ.1 hm with rfl|hm
    .omega
    .have:=(zFM.1 h2).1 j hm;omega
  |_=>cases h4
 .trivial
def codeOk (P:un) (S:Nat->Bool):Code->Bool
 |.region _ ops draw=>(ops.all λo=>qI P S o.op||ia S o.op)&&(!S JK||!Cg P ops||(!draw&&Qb P ops))
 |.seq a b=>codeOk P S a&&codeOk P S b
 |.cond c a b=>iX P S c&&codeOk P S a&&codeOk P S b
 |.block _ c|.loop c|.scope c=>codeOk P S c
 |.rangeFunc f _ a b=>iX P S f&&codeOk P S a&&codeOk P S b
 |.label n=>decide (n<100000)||!S (P.funcs.size+P.globals.size+1+(n-100000))
 |_=>true
def dB:Code->Bool
 |.seq a b=>dB a&&dB b
 |.cond _ a b=>dB a&&dB b
 |.block _ c|.loop c|.scope c=>dB c
 |.rangeFunc ..=>false
 |_=>true
abbrev KS (P:un) (S:Nat->Bool):Kz:=⟨λc=>codeOk P S c=true,λ_ _=>True⟩
inductive CR (P:un) (S:Nat->Bool) (H:Code->Code->Prop):Code->Code->Prop
 |same {c:Code} (h:codeOk P S c=true) (hr:dB c=true\/∀a b,¬H a b):CR P S H c c
 |hole {c c':Code} (h:H c c'):CR P S H c c'
 |seq {a a' b b':Code} (ha:CR P S H a a') (hb:CR P S H b b'):CR P S H (.seq a b) (.seq a' b')
 |cond {c:Operand} {a a' b b':Code} (hc:iX P S c=true) (ha:CR P S H a a') (hb:CR P S H b b'):CR P S H (.cond c a b) (.cond c a' b')
 |block (i:Nat) {a a':Code} (ha:CR P S H a a'):CR P S H (.block i a) (.block i a')
 |loop {a a':Code} (ha:CR P S H a a'):CR P S H (.loop a) (.loop a')
 |refuse (w:String) (c':Code) (hr:∀a b,¬H a b):CR P S H (.refuse w) c'
structure Closed (P:un) (F:Array Func) (S:Nat->Bool) (H:FuncId->Code->Code->Prop):Prop where
 jp:bC P
 eE:aN P
 Zw:S JK=true->P.info? 1000000=none
 size:F.size=P.funcs.size
 yp:∀f,S f=true->((∀a b,¬H f a b)↔S (P.funcs.size+P.globals.size+1+f)=false)
 body:∀f,S f=true->(P.funcs[f]?=none/\F[f]?=none)\/∃fn oS c c',P.funcs[f]?=some fn/\F[f]?=some oS/\fn.body=some c/\oS.body=some c'/\CR P S (H f) c c'/\
  fn.name≠ "runtime.NumGoroutine" /\oS.name≠ "runtime.NumGoroutine" /\fn.ntmps=oS.ntmps/\fn.results=oS.results
def Closed.pG {P:un} {F:Array Func} {S:Nat->Bool} {H:FuncId->Code->Code->Prop} (h:Closed P F S H):se P F S:=⟨h.Zw,λf hf=>
 (h.body f hf).imp id λ⟨fn,oS,c,c',h1,h2,h3,h4,_,h5,h6,_⟩=>⟨fn,oS,h1,h2,by rw[h3];rfl,by rw[h4];rfl,h5,h6⟩⟩
def jJ (P:un) (S:Nat->Bool) (p:Pi):Prop:=∀g,g<P.globals.size->S (P.funcs.size+g)=true->p g g
def jJ.mono {P:un} {S:Nat->Bool} {p q:Pi} (h:jJ P S p) (k:Le p q):jJ P S q:=λg a b=>k _ _ (h g a b)
section
variable (P:un) (S:Nat->Bool) (H:Code->Code->Prop) (p:Pi)
inductive IR:Item->Item->Prop
 |code {c c':Code} (h:CR P S H c c'):IR (.code c) (.code c')
 |inBlock (i:Nat):IR (.inBlock i) (.inBlock i)
 |inLoop {c c':Code} (h:CR P S H c c'):IR (.inLoop c) (.inLoop c')
 |inScope {c:Code} (h:codeOk P S c=true) (hr:dB c=true\/∀a b,¬H a b):IR (.inScope c) (.inScope c)
 |inRegion {ops:Array Oper} (l:List Nat) (h:∀o∈ops,(qI P S o.op||ia S o.op)=true):IR (.inRegion ops l) (.inRegion ops l)
 |qL {l l':Nat} (h:p l l') (hr:∀a b,¬H a b):IR (.inRangeFunc l) (.inRangeFunc l')
 |li {l l':Nat} (h:p l l') (hr:∀a b,¬H a b):IR (.endRangeFunc l) (.endRangeFunc l')
 |begin:IR .beginRound .beginRound
inductive TL:List Item->List Item->Prop
 |nil:TL [] []
 |cons {i i':Item} {l l':List Item} (h:IR P S H p i i') (t:TL l l'):TL (i::l) (i'::l')
inductive DL:List Deferred->List Deferred->Prop
 |nil:DL [] []
 |cons {r r':Nat} {l l':List Deferred} (h:p r r') (t:DL l l'):DL ({target:=.collected r,args:=#[]}::l) ({target:=.collected r',args:=#[]}::l')
inductive CL:List PanicEntry->List PanicEntry->Prop
 |nil:CL [] []
 |cons {v v':fu} (b c:Bool) {l l':List PanicEntry} (h:VR S p v v') (t:CL l l'):CL (⟨v,b,c⟩::l) (⟨v',b,c⟩::l')
inductive MR:FrameMode->FrameMode->Prop
 |run:MR .run .run
 |returning:MR .returning .returning
 |panicking {l l':List PanicEntry} (h:CL S p l l'):MR (.panicking l) (.panicking l')
inductive RR:Option Nat->Option Nat->Prop
 |none:RR .none .none
 |some {l l':Nat} (h:p l l'):RR (.some l) (.some l')
end
section
variable (P:un) (S:Nat->Bool) (H:FuncId->Code->Code->Prop) (p:Pi)
structure mZ (f f':Frame):Prop where
 fn:f.fn=f'.fn
 Tg:S f.fn=true
 tmps:AR S p f.tmps f'.tmps
 todo:TL P S (H f.fn) p f.todo f'.todo
 defers:DL p f.defers f'.defers
 mode:MR S p f.mode f'.mode
 kind:f.kind=.normal
 mO:f'.kind=.normal
 round:RR p f.roundOf f'.roundOf
 yp:f.roundOf=none\/∀a b,¬H f.fn a b
 nd:(f.defers=[]/\f'.defers=[])\/∀a b,¬H f.fn a b
 wide:(∀a b,¬H f.fn a b)\/∀fn,P.funcs[f.fn]?=some fn->fn.ntmps<=f.tmps.size
 Qc:S JK=true->iZ P f.tmps f.todo
inductive FL:List Frame->List Frame->Prop
 |one {f f':Frame} (h:mZ P S H p f f') (r:f.roundOf=.none/\∀c c',¬H f.fn c c'):FL [f] [f']
 |cons {f f':Frame} {l l':List Frame} (h:mZ P S H p f f') (t:FL l l') (BB:S JK=true->∀g,l.head?=some g->lZ g):FL (f::l) (f'::l')
end
section
variable {P:un} {F:Array Func} {S:Nat->Bool} {H:Code->Code->Prop} {p q:Pi}
def IR.mono (h:Le p q) {i i':Item} (x:IR P S H p i i'):IR P S H q i i':=by
 cases x with
 |code h=>exact .code h
 |inBlock i=>exact .inBlock i
 |inLoop h=>exact .inLoop h
 |inScope h hr=>exact .inScope h hr
 |inRegion l h=>exact .inRegion l h
 |qL g hr=>exact .qL (h _ _ g) hr
 |li g hr=>exact .li (h _ _ g) hr
 |begin=>exact .begin
def TL.mono (h:Le p q) (x:TL P S H p l l'):TL P S H q l l':=by
 induction x with
 |nil=>exact .nil
 |cons g _ ih=>exact .cons (g.mono h) ih
def DL.mono (h:Le p q) {l l':List Deferred} (x:DL p l l'):DL q l l':=by
 induction x with
 |nil=>exact .nil
 |cons g _ ih=>exact .cons (h _ _ g) ih
def CL.mono (h:Le p q) {l l':List PanicEntry} (x:CL S p l l'):CL S q l l':=by
 induction x with
 |nil=>exact .nil
 |cons b c g _ ih=>exact .cons b c (g.mono h) ih
def MR.mono (h:Le p q) {l l':FrameMode} (x:MR S p l l'):MR S q l l':=by
 cases x with
 |run=>exact .run
 |returning=>exact .returning
 |panicking g=>exact .panicking (g.mono h)
def RR.mono (h:Le p q) {l l':Option Nat} (x:RR p l l'):RR q l l':=by
 cases x with
 |none=>exact .none
 |some g=>exact .some (h _ _ g)
end
section
variable {P:un} {F:Array Func} {S:Nat->Bool} {H:FuncId->Code->Code->Prop} {p q:Pi}
def mZ.mono (h:Le p q) (x:mZ P S H p f f'):mZ P S H q f f':=
 ⟨x.fn,x.Tg,x.tmps.mono h,x.todo.mono h,x.defers.mono h,x.mode.mono h,x.kind,x.mO,x.round.mono h,x.yp,x.nd,x.wide,x.Qc⟩
def FL.mono (h:Le p q) {l l':List Frame} (x:FL P S H p l l'):FL P S H q l l':=by
 induction x with
 |one g r=>exact .one (g.mono h) r
 |cons g _ BB ih=>exact .cons (g.mono h) ih BB
def VR.undef:VR S p Go.undef Go.undef:=VR.plain 2 _ (by simp[aD.plain,Go.undef])
def mZ.eval (h:mZ P S H p f f') (hg:jJ P S p):tX P S p f.eval f'.eval where
 tmp t:=h.tmps.getD t VR.undef
 const v:=⟨rfl,rfl⟩
 global g hl hs:=.ptr 0 none (hg g hl hs)
 func f:=⟨rfl,rfl⟩
def mZ.Fi (h:mZ P S H p f f') (hl:TL P S (H f.fn) p l l') (hr:S JK=true->iZ P f.tmps l):mZ P S H p {f with todo:=l} {f' with todo:=l'}:=
 ⟨h.fn,h.Tg,h.tmps,hl,h.defers,h.mode,h.kind,h.mO,h.round,h.yp,h.nd,h.wide,hr⟩
def mZ.finish (h:mZ P S H p f f') (hv:VR S p v v') (pH:S JK=true->∀o,f.oper?=some o->qJ P o v):mZ P S H p (f.finish v) (f'.finish v'):=by
 obtain⟨fn,tmps,todo,defers,mode,kind,ro⟩:=f;obtain⟨oS,vg,Zx,Qd,Zy,mO,ro'⟩:=f';obtain⟨h1,h2,h3,h4,h5,h6,h7,h8,h9,wY,sR,Ch,Ci⟩:=h;simp only at h1 h2 h3 h4 h5 h6 h7 h8 h9 wY sR Ch Ci;subst h1;cases h4 with
 |nil=>exact⟨rfl,h2,h3,.nil,h5,h6,h7,h8,h9,wY,sR,Ch,Ci⟩
 |cons hi ht=>
  cases hi with
  |inRegion l ho=>
   cases l with
   |nil=>exact⟨rfl,h2,h3,.cons (.inRegion _ ho) ht,h5,h6,h7,h8,h9,wY,sR,Ch,Ci⟩
   |cons i rest=>
    refine⟨rfl,h2,?_,.cons (.inRegion _ ho) ht,h5,h6,h7,h8,h9,wY,sR,Ch.imp id λh fn hf=>?_,λhj=>⟨(Ci hj).1,λops is e=>?_⟩⟩
    .simp only[Frame.finish];split
     .exact h3.set _ hv
     .exact h3
    .simp only[Frame.finish];split
     .rw[zDV];exact h fn hf
     .exact h fn hf
    .cases e;exact KR.done ((Ci hj).2 _ _ rfl) λo hox=>pH hj o hox
  |qL g hr=>exact⟨rfl,h2,h3,.cons (.li g hr) ht,h5,h6,h7,h8,h9,wY,sR,Ch,λhj=>iZ.put (Ci hj).1 rfl⟩
  |begin=>exact⟨rfl,h2,h3,ht,h5,h6,h7,h8,h9,wY,sR,Ch,λhj=>iZ.no (Ci hj).1⟩
  |code g=>exact⟨rfl,h2,h3,.cons (.code g) ht,h5,h6,h7,h8,h9,wY,sR,Ch,Ci⟩
  |inBlock i=>exact⟨rfl,h2,h3,.cons (.inBlock i) ht,h5,h6,h7,h8,h9,wY,sR,Ch,Ci⟩
  |inLoop g=>exact⟨rfl,h2,h3,.cons (.inLoop g) ht,h5,h6,h7,h8,h9,wY,sR,Ch,Ci⟩
  |inScope g hr=>exact⟨rfl,h2,h3,.cons (.inScope g hr) ht,h5,h6,h7,h8,h9,wY,sR,Ch,Ci⟩
  |li g hr=>exact⟨rfl,h2,h3,.cons (.li g hr) ht,h5,h6,h7,h8,h9,wY,sR,Ch,Ci⟩
def CL.append {l l' m m':List PanicEntry} (h:CL S p l l') (k:CL S p m m'):CL S p (l++m) (l'++m'):=by
 induction h with
 |nil=>exact k
 |cons b c g _ ih=>exact .cons b c g ih
def mZ.raise (h:mZ P S H p f f') {l l':List PanicEntry} (hl:CL S p l l'):mZ P S H p (f.raise l) (f'.raise l'):=by
 obtain⟨fn,tmps,todo,defers,mode,kind,ro⟩:=f;obtain⟨oS,vg,Zx,Qd,Zy,mO,ro'⟩:=f';obtain⟨h1,h2,h3,h4,h5,h6,h7,h8,h9,wY,sR,Ch,Ci⟩:=h;simp only at h1 h2 h3 h4 h5 h6 h7 h8 h9 wY sR Ch Ci;cases h6 with
 |run=>exact⟨h1,h2,h3,h4,h5,.panicking hl,h7,h8,h9,wY,sR,Ch,Ci⟩
 |returning=>exact⟨h1,h2,h3,h4,h5,.panicking hl,h7,h8,h9,wY,sR,Ch,Ci⟩
 |panicking g=>exact⟨h1,h2,h3,h4,h5,.panicking (hl.append g),h7,h8,h9,wY,sR,Ch,Ci⟩
def mZ.enter (hc:Closed P F S H) {f:Nat} (hf:S f=true) {xs de:Array fu} (h:AR S p xs de) {k k':CallKind} (hk:k=.normal) (BC:k'=.normal):mZ P S H p (Frame.enter P f xs k) (Frame.enter (ai P F) f de k'):=by
 subst hk;subst BC;unfold Frame.enter;rcases hc.body f hf with⟨h1,h2⟩|⟨fn,oS,c,c',h1,h2,h3,h4,h5,_,_,h6,_⟩
 .have sQ:=h2;simp only[h1,sQ,Option.map_none,Option.getD_none,Option.bind_none];rw[h.1];exact⟨rfl,hf,h.append (AR.replicate _ VR.undef),.cons (.code (.same rfl (.inl rfl))) .nil,.nil,.run,rfl,rfl,.none,.inl rfl,.inl ⟨rfl,rfl⟩,.inr λfn hf=>(by simp only at hf;rw[h1]at hf;cases hf),λ_=>iZ.no λx hx=>by simp at hx;subst hx;rfl⟩
 .have sQ:=h2;simp only[h1,sQ,h3,h4,zBJ,zAD,zDT];rw[h.1,h6]
  exact⟨rfl,hf,h.append (AR.replicate _ VR.undef),.cons (.code h5) .nil,.nil,.run,rfl,rfl,.none,.inl rfl,.inl ⟨rfl,rfl⟩,.inr λgn hg=>(by
   simp only at hg;rw[h1]at hg;cases hg;simp only[zFA,Array.size_replicate];have:=h.1;omega),λ_=>iZ.no λx hx=>by simp at hx;subst hx;rfl⟩
def mZ.Qe {l l' f:Nat} (hn:∀a b,¬H f a b) (hl:p l l') (hf:S f=true) (h:AR S p xs de) {b:Code} (ha:codeOk P S a=true) (hb:codeOk P S b=true):
 mZ P S H p (Frame.round l f xs a b .normal) (Frame.round l' f de a b .normal):=
 ⟨rfl,hf,h,.cons (.code (.same ha (.inr hn))) (.cons .begin (.cons (.code (.same hb (.inr hn))) .nil)),.nil,.run,rfl,rfl,.some hl,.inr hn,.inr hn,.inl hn,λ_=>iZ.no λx hx=>by have hx:x∈ [Item.code a,.beginRound,.code b]:=hx;simp at hx;rcases hx with rfl|rfl|rfl<;>rfl⟩
def qM (l:Nat):∀(c:Code) {d:Code},dB c=true->findLabel c l=some d->dB d=true:=by
 intro c;induction c with
 |seq a b Zz ZA=>
  intro d hc hd;simp only[dB,zAF]at hc;simp only[findLabel]at hd;cases ha:findLabel a l with
  |some r=>rw[ha]at hd;simp only[zAB]at hd;subst hd;simp only[dB,zAF];exact⟨Zz hc.1 ha,hc.2⟩
  |none=>rw[ha]at hd;exact ZA hc.2 hd
 |label l'=>
  intro d hc hd;simp only[findLabel]at hd;split at hd
  .simp only[zAB]at hd;subst hd;rfl
  .cases hd
 |_=>intro d _ hd;cases hd
def Fj {H:Code->Code->Prop} (id:Nat) (h:TL P S H p l l'):(exitTo id l=none/\exitTo id l'=none)\/∃k k',exitTo id l=some k/\exitTo id l'=some k'/\TL P S H p k k':=by
 induction h with
 |nil=>exact .inl ⟨rfl,rfl⟩
 |cons hi ht ih=>
  cases hi with
  |inBlock i=>
   simp only[exitTo];split
   .exact .inr ⟨_,_,rfl,rfl,ht⟩
   .exact ih
  |_=>exact ih
def zK (l:Nat):∀(c:Code) {d:Code},codeOk P S c=true->findLabel c l=some d->codeOk P S d=true:=by
 intro c;induction c with
 |seq a b Zz ZA=>
  intro d hc hd;simp only[codeOk,zAF]at hc;simp only[findLabel]at hd;cases ha:findLabel a l with
  |some r=>rw[ha]at hd;simp only[zAB]at hd;subst hd;simp only[codeOk,zAF];exact⟨Zz hc.1 ha,hc.2⟩
  |none=>rw[ha]at hd;exact ZA hc.2 hd
 |label l'=>
  intro d hc hd;simp only[findLabel]at hd;split at hd
  .simp only[zAB]at hd;subst hd;rfl
  .cases hd
 |_=>intro d _ hd;cases hd
def Fk {H:Code->Code->Prop} (id:Nat) (h:TL P S H p l l'):(gotoIn id l=none/\gotoIn id l'=none)\/∃k k',gotoIn id l=some k/\gotoIn id l'=some k'/\TL P S H p k k':=by
 induction h with
 |nil=>exact .inl ⟨rfl,rfl⟩
 |cons hi ht ih=>
  cases hi with
  | @inScope c hc hr=>
    simp only[gotoIn];cases hd:findLabel c id with
    |some d=>exact .inr ⟨_,_,rfl,rfl,.cons (.code (.same (zK id c hc hd) (hr.imp (λx=>qM id c x hd) λx=>x))) (.cons (.inScope hc hr) ht)⟩
    |none=>exact ih
  |_=>exact ih
def JB (id:Nat):∀{l k:List Item},(∀x∈l,iY x=true)->exitTo id l=some k->∀x∈k,iY x=true:=by
 intro l;induction l with
 |nil=>intro k _ h;cases h
 |cons it l ih=>
  intro k h e;have hl:∀x∈l,iY x=true:=λx hx=>h x (zAS _ hx);cases it<;>first|exact ih hl e|skip
  simp only[exitTo]at e;split at e
  .cases e;exact hl
  .exact ih hl e
def JC (id:Nat):∀{l k:List Item},(∀x∈l,iY x=true)->gotoIn id l=some k->∀x∈k,iY x=true:=by
 intro l;induction l with
 |nil=>intro k _ h;cases h
 |cons it l ih=>
  intro k h e;have hl:∀x∈l,iY x=true:=λx hx=>h x (zAS _ hx);cases it<;>first|exact ih hl e|skip
  rename_i body;simp only[gotoIn]at e;cases hd:findLabel body id with
  |none=>rw[hd]at e;exact ih hl e
  |some r=>
   rw[hd]at e;cases e;intro x hx;rcases zAQ.1 hx with rfl|hx
   .rfl
   .rcases zAQ.1 hx with rfl|hx
    .rfl
    .exact hl x hx
def ny (S:Nat->Bool) (f:Frame):Prop:=
 f.mode=.run/\∃o ops i is k,f.todo=.inRegion ops (i::is)::k/\ops[i]?=some o/\ia S o.op=true/\Region.wanted o (yielded ops f.tmps)=true
def ny.U9 {S:Nat->Bool} (h:ny S f):lZ f:=by
 obtain⟨_,o,ops,i,is,k,h1,h2,h3,_⟩:=h;intro o2 ho;unfold Frame.oper? at ho;rw[h1]at ho;simp only at ho;rw[h2]at ho;cases ho;cases hx:o.op<;>rw[hx]at h3<;>first|rfl|cases h3
def sS (ops:Array Oper) {ys:Array fu} (h:AR S p xs ys) (j:Nat):yielded ops xs j=yielded ops ys j:=by
 unfold yielded;cases((ops[j]?).bind (·.dst))with
 |none=>rfl
 |some d=>
  simp only[zDT];cases hx:xs[d]? with
  |none=>rw[h.none hx]
  |some v=>
   obtain⟨v',qx,hr⟩:=h.get hx;rw[qx];cases hr with
   |rV _ hj h=>cases v'<;>first|rfl|cases h
   |_=>rfl
def mem_seen {P:un} {fn:FuncId} {e:Event} (h:e∈seen P fn es):e∈es:=by
 have key:∀(quiet:FuncId->Bool) (l:List Event) (q:Bool) (kept:Array Event),e∈(l.foldl (λ(x:Bool×Array Event) (e:Event)=>match x with
  |(q,kept)=>match e.loc with
   |.mark (.extern f)=>(quiet f,kept)
   |_=>(q,if q&&!e.sync then kept else kept.push e)) (q,kept)).2->e∈kept\/e∈l:=by
  intro quiet l;induction l with
  |nil=>intro q kept h;exact .inl h
  |cons x l ih=>
   intro q kept h;rw[zDL]at h
   generalize hy:(match(q,kept)with
    |(q,kept)=>match x.loc with
     |.mark (.extern f)=>(quiet f,kept)
     |_=>(q,if q&&!x.sync then kept else kept.push x))=y at h
   obtain⟨q',k'⟩:=y
   have hk:e∈k'->e∈kept\/e=x:=by
    intro he;simp only at hy;split at hy
    .rw[zAH]at hy;rw[hy.2];exact .inl he
    .rw[zAH]at hy;rw[<-hy.2]at he;split at he
     .exact .inl he
     .exact Array.mem_push.1 he
   rcases ih q' k' h with h|h
   .exact(hk h).imp id λh=>by simp[h]
   .exact .inr (by simp[h])
 unfold seen at h;dsimp only at h;rw[<-zEX]at h;have:=key _ _ _ _ h;simpa using this
end
def gw:GStep->nq
 |.go _ w _=>w
 |.comm _ _ _ _ w _=>w
 |.spawn _ _ w _=>w
 |.count _ w _=>w
 |.timer _ _ w _=>w
 |.alone _ _ w _=>w
 |.newcoro _ _ _ w _=>w
 |.coroswitch _ _ _ w _=>w
 |.collect _ w _=>w
 |.watch _ w _=>w
 |.ended _ w _=>w
@[simp] theorem lj (es:Array Event) (s:GStep):gw (GStep.after es s)=gw s:=by cases s <;> rfl
def JD (P:un) (s:Sem α) (w:nq):w.drawn<=(world (s.run P w)).drawn:=by
 have:=pB P s w #[];rw[Sem.runT_fst]at this;exact this
def nz {P:un} {s:Sem α} {w:nq} {r:Result α} (h:s.run P w=r):w.drawn<=(world r).drawn:=h▸JD P s w
def vh (P:un) (fr:Frame) (cs:List Frame) (d:Option Dying) (m:String) (w:nq):w.drawn<=(gw (endFatal P fr cs d m w)).drawn:=by
 unfold endFatal;dsimp only;split
 .rename_i h;exact nz h
 .rename_i h;exact nz h
 .rename_i h;exact nz h
def Cj (P:un) (fr:Frame) (cs:List Frame) (d:Option Dying) (g:Nat) (w:nq):w.drawn<=(gw (early P fr cs d g w)).drawn:=by
 unfold early;dsimp only;repeat' split
 all_goals first
  |exact zAA _
  |(have hx:=nz (by assumption:Sem.run P (choose (Question.early g)) w=Result.ok _ _);exact hx)
  |(have hx:=nz (by assumption:Sem.run P (choose (Question.early g)) w=Result.halt _ _);exact hx)
def sU (P:un) (fr:Frame) (cs:List Frame) (d:Option Dying) (s:Sem Next) (w:nq):(world (s.runT P w #[]).1).drawn<=(gw (stepG.apply P true fr cs d s w)).drawn:=by
 unfold stepG.apply;simp only[zBM];generalize s.runT P w #[]=x;obtain⟨r,es⟩:=x;simp only[lj];split;all_goals(try exact zAA _)
 all_goals(try(split<;>exact zAA _))
 all_goals first
  |exact vh ..
  |exact Cj ..
  |(split<;>split<;>exact zAA _)
section
variable (P:un) (S:Nat->Bool) (H:FuncId->Code->Code->Prop) (N:Nat)
def dW (p:Pi) (w w':nq) (b:Frame) (bs:List Frame) (aU:List Frame) (s s':GStep):Prop:=
 (∃o w1 es,s=.ended o w1 es)\/(∃q ch Yf w1 es,CL S q ch Yf/\s=.go {frame:=b.raise ch,callers:=bs,status:=.running,dying:=none} w1 es)\/
 ∃c n w1 iO es dJ,cY P S (KS P S) N p w w' c n w1 iO/\(∀e∈dJ,Pn N (ext p w.heap.size w'.heap.size c) e)/\
  ((∃f f' top dY,FL P S H (ext p w.heap.size w'.heap.size c) (f::top) (f'::dY)/\
     s=.go {frame:=f,callers:=top++b::bs,status:=.running,dying:=none} w1 es/\
     s'=.go {frame:=f',callers:=dY++aU,status:=.running,dying:=none} iO dJ)\/
   (∃v v',VR S (ext p w.heap.size w'.heap.size c) v v'/\
     s=.go {frame:=b.finish v,callers:=bs,status:=.running,dying:=none} w1 es/\
     ((∃b' zL,aU=b'::zL/\s'=.go {frame:=b'.finish v',callers:=zL,status:=.running,dying:=none} iO dJ)\/
      (aU=[]/\s'=.ended (.done v') iO dJ))))
end
section
variable {P:un} {F:Array Func} {S:Nat->Bool} {H:FuncId->Code->Code->Prop} {N:Nat} {p:Pi} {w w':nq} {b:Frame} {bs:List Frame} {aU:List Frame}
def dW.ended (o:Outcome) (w1:nq) (es:Array Event):dW P S H N p w w' b bs aU (.ended o w1 es) s':=.inl ⟨o,w1,es,rfl⟩
def dW.go (h:WR P S (KS P S) N p w w') {top:List Frame} (hf:FL P S H p (f::top) (f'::dY)):
 dW P S H N p w w' b bs aU (.go {frame:=f,callers:=top++b::bs,status:=.running,dying:=none} w) (.go {frame:=f',callers:=dY++aU,status:=.running,dying:=none} w'):=
 .inr (.inr ⟨0,0,w,w',#[],#[],cY.refl h,by simp,.inl ⟨f,f',top,dY,by rw[bU];exact hf,rfl,rfl⟩⟩)
def dW.ret (h:WR P S (KS P S) N p w w') (hv:VR S p v v') (b':Frame) (zL:List Frame):
 dW P S H N p w w' b bs (b'::zL) (.go {frame:=b.finish v,callers:=bs,status:=.running,dying:=none} w) (.go {frame:=b'.finish v',callers:=zL,status:=.running,dying:=none} w'):=
 .inr (.inr ⟨0,0,w,w',#[],#[],cY.refl h,by simp,.inr ⟨v,v',by rw[bU];exact hv,rfl,.inl ⟨b',zL,rfl,rfl⟩⟩⟩)
def dW.Qf (h:WR P S (KS P S) N p w w') (hv:VR S p v v'):
 dW P S H N p w w' b bs [] (.go {frame:=b.finish v,callers:=bs,status:=.running,dying:=none} w) (.ended (.done v') w'):=
 .inr (.inr ⟨0,0,w,w',#[],#[],cY.refl h,by simp,.inr ⟨v,v',by rw[bU];exact hv,rfl,.inr ⟨rfl,rfl⟩⟩⟩)
def dW.raised {q:Pi} {v v':List PanicEntry} (h:CL S q v v') (w1:nq) (es:Array Event):
 dW P S H N p w w' b bs aU (.go {frame:=b.raise v,callers:=bs,status:=.running,dying:=none} w1 es) s':=.inr (.inl ⟨q,v,v',w1,es,h,rfl⟩)
def dW.trans (hm:cY P S (KS P S) N p w w' c n w1 iO) {dJ:Array Event} (he:∀e∈dJ,Pn N (ext p w.heap.size w'.heap.size c) e) {s:GStep}
 (h:dW P S H N (ext p w.heap.size w'.heap.size c) w1 iO b bs aU s s'):dW P S H N p w w' b bs aU (s.after es) (s'.after dJ):=by
 rcases h with⟨o,w2,es2,rfl⟩|⟨q,ch,Yf,w2,es2,Ib,rfl⟩|⟨c2,n2,w2,Me,fs,fs',k1,k2,k3⟩
 .exact .inl ⟨o,w2,_,rfl⟩
 .exact .inr (.inl ⟨q,ch,Yf,w2,_,Ib,rfl⟩)
 .rw[hm.size,hm.nh,qz]at k2 k3;refine .inr (.inr ⟨c+c2,n+n2,w2,Me,es++fs,dJ++fs',hm.trans k1,λx hx=>?_,?_⟩)
  .rcases zEA.1 hx with hx|hx
   .refine(he x hx).mono ?_;rw[<-qz];exact fS _ _ _ _
   .exact k2 x hx
  .rcases k3 with⟨f,f',top,dY,x1,rfl,rfl⟩|⟨v,v',x1,rfl,⟨b',zL,x2,rfl⟩|⟨x2,rfl⟩⟩
   .exact .inl ⟨f,f',top,dY,x1,rfl,rfl⟩
   .exact .inr ⟨v,v',x1,rfl,.inl ⟨b',zL,x2,rfl⟩⟩
   .exact .inr ⟨v,v',x1,rfl,.inr ⟨x2,rfl⟩⟩
def mP (m:Nat) (w w':nq):Prop:=∀j,j<m->∀q,w.tape (w.drawn+j) q=w'.tape (w'.drawn+j) q
def mP.ZB (h:mP m w w') (hm:cY P S (KS P S) N p w w' c n w1 iO):mP (m-n) w1 iO:=by
 intro j hj q;have:=h (n+j) (by omega) q;rw[hm.tape,hm.Hv,hm.drawn,hm.ni,zBD,zBD];exact this
def dW.run {Q:Pi->α->β->Prop} {s:Sem α} {s':Sem β} (h:SR P F S (KS P S) N Q s s' p) (hw:WR P S (KS P S) N p w w') (hm:mP m w w')
 {ev:Result α->Array Event->Array Event} {Va:Result β->Array Event->Array Event} (bA:∀r es e,e∈Va r es->e∈es)
 {k:Result α->GStep} {k':Result β->GStep} (hd:(gw (k' (s'.runT (ai P F) w' #[]).1)).drawn<=w'.drawn+m) (hk:∀r,(world r).drawn<=(gw (k' r)).drawn)
 (ZC:∀x w1,dead x->∃o w2 es,k (.halt x w1)=.ended o w2 es)
 (uy:∀c n w1 iO x y,cY P S (KS P S) N p w w' c n w1 iO->Q (ext p w.heap.size w'.heap.size c) x y->mP (m-n) w1 iO->(gw (k' (.ok y iO))).drawn<=iO.drawn+(m-n)->
   dW P S H N (ext p w.heap.size w'.heap.size c) w1 iO b bs aU (k (.ok x w1)) (k' (.ok y iO)))
 (Vb:∀c n w1 iO v v',cY P S (KS P S) N p w w' c n w1 iO->VR S (ext p w.heap.size w'.heap.size c) v v'->
   dW P S H N (ext p w.heap.size w'.heap.size c) w1 iO b bs aU (k (.halt (.panic v) w1)) (k' (.halt (.panic v') iO))):
 dW P S H N p w w' b bs aU (GStep.after (ev (s.runT P w #[]).1 (s.runT P w #[]).2) (k (s.runT P w #[]).1)) (GStep.after (Va (s'.runT (ai P F) w' #[]).1 (s'.runT (ai P F) w' #[]).2) (k' (s'.runT (ai P F) w' #[]).1)):=by
 have ho:=SR.sound h w w' #[] #[] m hw hm (zAM (hk _) hd);rcases ho with⟨x,w1,es1,e,hx⟩|⟨c,n,w1,iO,es1,fs,k1,k2,⟨x,y,e,e',hq⟩|⟨v,v',e,e',hv⟩⟩
 .rw[e];obtain⟨o,w2,es,e2⟩:=ZC x w1 hx;simp only[e2];exact .inl ⟨o,w2,_,rfl⟩
 .rw[e']at hd;simp only at hd;have hwd:=zAM (hk _) hd;simp only[world]at hwd;rw[k1.ni]at hwd;rw[e,e'];simp only[zDU];refine dW.trans k1 (λz hz=>k2 z (bA _ _ _ hz)) (uy c n w1 iO x y k1 hq (hm.ZB k1) ?_);rw[k1.ni];omega
 .rw[e,e'];simp only[zDU];exact dW.trans k1 (λz hz=>k2 z (bA _ _ _ hz)) (Vb c n w1 iO v v' k1 hv)
end
section
variable {P:un} {F:Array Func} {S:Nat->Bool} {K:Kz} {N:Nat} {p:Pi}
structure Th (S:Nat->Bool) (K:Kz) (p:Pi) (l l':Loop):Prop where
 h1:l.state=l'.state
 h2:l.pending=l'.pending
 h3:l.fn=l'.fn
 h4:AR S p l.tmps l'.tmps
 h5:l.params=l'.params
 h6:l.assign=l'.assign
 h7:l.body=l'.body
 h8:p l.defers l'.defers
 k1:S l.fn=true
 k2:K l.assign
 k3:K l.body
 k4:∀c,l.pending=some c->K c
 k5:K (.label (100000+l.fn))
def Th.or {l l':Loop} (x:Th S K p l l'):OR S K p (.loop l) (.loop l'):=.loop x.h1 x.h2 x.h3 x.h4 x.h5 x.h6 x.h7 x.h8 x.k1 x.k2 x.k3 x.k4 x.k5
def SR.getLoop (h:p r r'):SR P F S K N (λq l l'=>Th S K q l l') (Instr.getLoop r) (Instr.getLoop r') p:=by
 unfold Instr.getLoop;refine(SR.getObj h).bind λq o o' hq ho=>?_;cases ho<;>first|exact SR.stuck|skip
 rename_i h1 h2 h3 h4 h5 h6 h7 h8 k1 k2 k3 k4 k5;exact SR.pure ⟨h1,h2,h3,h4,h5,h6,h7,h8,k1,k2,k3,k4,k5⟩
def SR.enterLoop {f f':Nat} (Yg:f=f') (hf:S f=true) (hz:K (.label (100000+f))) (hx:AR S p xs de) (ps:Array Tmp) {c:Code} (ha:K a) (hc:K c) {o o':Option Nat} (ho:RR p o o'):
 SR P F S K N (λq x y=>q x.1 y.1/\DL q x.2 y.2) (Instr.enterLoop f xs ps a c o) (Instr.enterLoop f' de ps a c o') p:=by
 subst Yg;unfold Instr.enterLoop;cases ho with
 |none=>
  simp only[bind_assoc,pure_bind];refine(SR.newObj .eS λ_ _ _ _ _ _ _ a=>by cases a).bind λq r r' hq hr=>?_;refine(SR.newObj (Th.or (l:={state:=.ready,pending:=none,fn:=f,tmps:=xs,params:=ps,assign:=a,body:=c,defers:=r}) (l':={state:=.ready,pending:=none,fn:=f,tmps:=de,params:=ps,assign:=a,body:=c,defers:=r'}) ⟨rfl,rfl,rfl,hx.mono hq,rfl,rfl,rfl,hr.1,hf,ha,hc,λc h=>(by cases h),hz⟩) λ_ _ _ _ _ _ _ a=>by cases a).bind λq2 s s' cW hs=>?_;exact SR.pure ⟨hs.1,.cons (cW _ _ hr.1) .nil⟩
 |some h=>
  simp only[bind_assoc,pure_bind];refine(SR.getLoop h).bind λq r r' hq hr=>?_;refine(SR.newObj (Th.or (l:={state:=.ready,pending:=none,fn:=f,tmps:=xs,params:=ps,assign:=a,body:=c,defers:=r.defers}) (l':={state:=.ready,pending:=none,fn:=f,tmps:=de,params:=ps,assign:=a,body:=c,defers:=r'.defers}) ⟨rfl,rfl,rfl,hx.mono hq,rfl,rfl,rfl,hr.h8,hf,ha,hc,λc h=>(by cases h),hz⟩) λ_ _ _ _ _ _ _ a=>by cases a).bind λq2 s s' cW hs=>?_;exact SR.pure ⟨hs.1,.nil⟩
def SR.beginRound (h:p r r'):SR P F S K N (QE Unit) (Instr.beginRound r) (Instr.beginRound r') p:=by
 unfold Instr.beginRound;refine(SR.getLoop h).bind λq l l' hq hl=>?_;refine(SR.setObj (hq _ _ h) (Th.or (l:={l with state:=.busy}) (l':={l' with state:=.busy}) ⟨rfl,hl.h2,hl.h3,hl.h4,hl.h5,hl.h6,hl.h7,hl.h8,hl.k1,hl.k2,hl.k3,hl.k4,hl.k5⟩) λ_ _ _ _ _ _ _ a=>by cases a).aE λq2 _ cW=>?_;rw[<-hl.h1];cases l.state with
 |ready=>exact SR.pure rfl
 |done=>exact SR.err _
 |busy=>exact SR.err _
 |exhausted=>exact SR.err _
def SR.endRound (h:p r r') (j:Option Code) (hj:∀c,j=some c->K c):SR P F S K N (QV S) (Instr.endRound r j) (Instr.endRound r' j) p:=by
 unfold Instr.endRound;refine(SR.getLoop h).bind λq l l' hq hl=>?_;refine(SR.setObj (hq _ _ h) (Th.or (l:={l with state:=if j.isNone then .ready else .done,pending:=j}) (l':={l' with state:=if j.isNone then .ready else .done,pending:=j}) ⟨rfl,rfl,hl.h3,hl.h4,hl.h5,hl.h6,hl.h7,hl.h8,hl.k1,hl.k2,hl.k3,hj,hl.k5⟩) λ_ _ _ _ _ _ _ a=>by cases a).aE λq2 _ cW=>?_;exact SR.pure (VR.plain 2 _ rfl)
def SR.endLoop (h:p r r'):SR P F S K N (λ_ a b=>a=b/\∀c,a=some c->K c) (Instr.endLoop r) (Instr.endLoop r') p:=by
 unfold Instr.endLoop;refine(SR.getLoop h).bind λq l l' hq hl=>?_;rw[<-hl.h1]
 have tail:∀q2,Le q q2->SR P F S K N (λ_ a b=>a=b/\∀c,a=some c->K c) (Go.setObj r (.loop {l with state:=.exhausted})>>=λ_=>(Pure.pure l.pending:Sem (Option Code))) (Go.setObj r' (.loop {l' with state:=.exhausted})>>=λ_=>(Pure.pure l'.pending:Sem (Option Code))) q2:=λq2 cW=>by
  refine(SR.setObj (cW _ _ (hq _ _ h)) (Th.or (l:={l with state:=.exhausted}) (l':={l' with state:=.exhausted}) ⟨rfl,hl.h2,hl.h3,hl.h4.mono cW,hl.h5,hl.h6,hl.h7,cW _ _ hl.h8,hl.k1,hl.k2,hl.k3,hl.k4,hl.k5⟩) λ_ _ _ _ _ _ _ a=>by cases a).aE λq3 _ iP=>?_;exact SR.pure ⟨hl.h2,hl.k4⟩
 split
 .exact(SR.err (α:=PUnit) (β:=PUnit) (Q:=QE PUnit) _).aE λq2 _ cW=>tail q2 cW
 .exact tail q (Le.refl q)
def SR.takeDeferred (h:p r r'):SR P F S K N (λ_ a b=>a=[]/\b=[]) (Instr.takeDeferred r) (Instr.takeDeferred r') p:=by
 unfold Instr.takeDeferred;refine(SR.getObj h).bind λq o o' hq ho=>?_;cases ho<;>first|exact SR.stuck|skip
 refine(SR.setObj (hq _ _ h) .eR λ_ _ _ _ _ _ _ a=>by cases a).aE λq2 _ cW=>?_;exact SR.pure ⟨rfl,rfl⟩
def SR.ZD (f f':α->Sem fu):∀(l:List α) {p:Pi} {acc E9:Array fu},(∀x q,Le p q->SR P F S K N (QV S) (f x) (f' x) q)->AR S p acc E9->
 SR P F S K N (QA S) (l.foldlM (λbs a=>Functor.map bs.push (f a)) acc) (l.foldlM (λbs a=>Functor.map bs.push (f' a)) E9) p:=by
 intro l;induction l with
 |nil=>intro p acc E9 _ ha;exact SR.pure ha
 |cons x l ih=>
  intro p acc E9 h ha;simp only[zFV];refine SR.bind (Q:=QA S) ?_ λq a b hq qE=>ih (λy q2 cW=>h y q2 (hq.trans cW)) qE;exact(h x p (Le.refl p)).bind λq b b' hq hb=>SR.pure ((ha.mono hq).push hb)
def SR.results {fn oS:Func} (hr:fn.results=oS.results) (h:AR S p xs de):SR P F S K N (QV S) (Go.results fn xs) (Go.results oS de) p:=by
 unfold Go.results;rw[<-hr];refine SR.bind (Q:=QA S) ?_ λq vs Td hq hv=>?_
 .rw[zEM,<-zFI,zEM,<-zFI];refine SR.ZD _ _ _ (λx q hq=>?_) AR.empty;cases x with
  |tmp t=>exact SR.pure ((h.mono hq).getD t VR.undef)
  |cell a t=>exact(SR.asAddr ((h.mono hq).getD a VR.undef)).bind λq2 a a' cW ha=>SR.loadVar t ha
 .refine SR.pure ?_;have:=hv.1;by_cases h1:vs.size=1
  .have rZ:Td.size=1:=by omega
   simp only[h1,rZ,dif_pos];exact hv.2 0 _ _ (by simp[h1]) (by simp[rZ])
  .have rZ:Td.size≠1:=by omega
   simp only[h1,rZ,dif_neg,not_false_eq_true];exact hv.tuple
end
section
variable {P:un} {F:Array Func} {S:Nat->Bool} {H:FuncId->Code->Code->Prop} {N:Nat} {p:Pi} {w w':nq} {b:Frame} {bs:List Frame} {aU:List Frame}
def Qg {f:Nat} (h:KS P S (.label (100000+f))):S (P.funcs.size+P.globals.size+1+f)=false:=by
 have h:(decide (100000+f<100000)||!S (P.funcs.size+P.globals.size+1+(100000+f-100000)))=true:=h;rw[zDG,zCE (by omega),zDZ]at h;simpa using h
def Qh {f:Nat} (h:S (P.funcs.size+P.globals.size+1+f)=false):KS P S (.label (100000+f)):=by
 show(decide (100000+f<100000)||!S (P.funcs.size+P.globals.size+1+(100000+f-100000)))=true;rw[zDG,h];simp
def TL.kind {H:Code->Code->Prop} (h:TL P S H p l l'):(match l with|.call _ true _ _::_=>CallKind.wrapped|_=>CallKind.normal)=.normal/\(match l' with|.call _ true _ _::_=>CallKind.wrapped|_=>CallKind.normal)=.normal:=by
 cases h with
 |nil=>exact⟨rfl,rfl⟩
 |cons hi ht=>cases hi<;>exact⟨rfl,rfl⟩
def FL.head (h:FL P S H p (f::t) (f'::t')):mZ P S H p f f':=by
 cases h with
 |one h=>exact h
 |cons h _ _=>exact h
def FL.top {g':Frame} (h:FL P S H p (f::t) (f'::t')) (hg:mZ P S H p g g') (hr:g.roundOf=f.roundOf/\g.fn=f.fn):FL P S H p (g::t) (g'::t'):=by
 cases h with
 |one h r=>exact .one hg ⟨hr.1.trans r.1,by rw[hr.2];exact r.2⟩
 |cons h t BB=>exact .cons hg t BB
def eF (f:Frame) (v:fu):(f.finish v).roundOf=f.roundOf/\(f.finish v).fn=f.fn:=by
 unfold Frame.finish;split<;>exact⟨rfl,rfl⟩
def kg (f:Frame) (v:List PanicEntry):(f.raise v).roundOf=f.roundOf/\(f.raise v).fn=f.fn:=by
 unfold Frame.raise;split<;>exact⟨rfl,rfl⟩
def Fl (P:un) (f:Frame):Next->Prop
 |.value v=>∀o,f.oper?=some o->qJ P o v
 |.skip=>True
 |_=>lZ f
def Fl.no {P:un} (h:f.oper?=none) (x:Next):Fl P f x:=by
 unfold Fl lZ;split
 .intro o ho;rw[h]at ho;cases ho
 .trivial
 .intro o ho;rw[h]at ho;cases ho
def dW.apply (hc:Closed P F S H) (hw:WR P S (KS P S) N p w w') {top:List Frame} (hf:FL P S H p (f::top) (f'::dY)) (hm:mP m w w')
 {s s':Sem Next} (hs:SR P F S (KS P S) N (QX S (KS P S)) s s' p) (hd:(gw (stepG.apply (ai P F) true f' (dY++aU) none s' w')).drawn<=w'.drawn+m) (hx:S JK=true->∀es x w1 es1,s.runT P w es=(.ok x w1,es1)->Fl P f x):
 dW P S H N p w w' b bs aU (stepG.apply P true f (top++b::bs) none s w) (stepG.apply (ai P F) true f' (dY++aU) none s' w'):=by
 have ho:=SR.sound hs w w' #[] #[] m hw hm (zAM (sU ..) hd);have gX:=hf.head;have hk:=gX.todo.kind;have Ti:(f'.kind==CallKind.early)=false:=by rw[gX.mO];rfl
 rcases ho with⟨x,w1,es1,e,Mf⟩|⟨c,n,w1,iO,es1,fs,k1,k2,⟨x,y,e,e',hq⟩|⟨v,v',e,e',hv⟩⟩
 .cases x with
  |stuck why=>exact .inl ⟨_,_,_,by simp only[stepG.apply,zBM,e];rfl⟩
  |unsupported u=>cases u<;>first|exact absurd Mf id|exact .inl ⟨_,_,_,by simp only[stepG.apply,zBM,e];rfl⟩
  |_=>exact absurd Mf id
 .rw[zDU]at e';have hle:=fS p w.heap.size w'.heap.size c;have bA:∀z∈seen (ai P F) f'.fn fs,Pn N (ext p w.heap.size w'.heap.size c) z:=λz hz=>k2 z (mem_seen hz);have JE:=hf.mono hle;cases hq with
  | @value v v' h=>
    have t:=dW.trans (b:=b) (bs:=bs) (aU:=aU) k1 (es:=seen P f.fn (if f.kind==CallKind.early then #[]else es1)) bA (dW.go k1.rel (JE.top (JE.head.finish h λhj=>hx hj _ _ _ _ e) (eF f v)));simpa only[stepG.apply,zBM,e,e',Ti,zAL,zBC,GStep.after]using t
  |skip=>
   have t:=dW.trans (b:=b) (bs:=bs) (aU:=aU) k1 (es:=seen P f.fn (if f.kind==CallKind.early then #[]else es1)) bA (dW.go k1.rel (JE.top (JE.head.finish VR.undef λ_ o _ n _=>pF n) (eF f _)));simpa only[stepG.apply,zBM,e,e',Ti,zAL,zBC,GStep.after]using t
  | @enter g xs de hg h=>
    have t:=dW.trans (b:=b) (bs:=bs) (aU:=aU) k1 (es:=seen P f.fn (if f.kind==CallKind.early then #[]else es1)) bA (dW.go k1.rel (FL.cons (mZ.enter hc hg h hk.1 hk.2) JE λhj g hg=>by cases hg;exact hx hj _ _ _ _ e));simp only[stepG.apply,zBM,e,e',Ti,zAL,zBC,GStep.after];exact t
  | @round l l' g xs de a1 a2 hl hg h h1 h2 hz=>
    have hn:=(hc.yp g hg).2 (Qg hz);have t:=dW.trans (b:=b) (bs:=bs) (aU:=aU) k1 (es:=seen P f.fn (if f.kind==CallKind.early then #[]else es1)) bA (dW.go k1.rel (FL.cons (mZ.Qe hn hl hg h h1 h2) JE λhj g hg=>by cases hg;exact hx hj _ _ _ _ e));simpa only[stepG.apply,zBM,e,e',Ti,zAL,zBC,GStep.after,zEP]using t
 .rw[zDU]at e';have hle:=fS p w.heap.size w'.heap.size c;have bA:∀z∈seen (ai P F) f'.fn fs,Pn N (ext p w.heap.size w'.heap.size c) z:=λz hz=>k2 z (mem_seen hz);have JE:=hf.mono hle;have t:=dW.trans (b:=b) (bs:=bs) (aU:=aU) k1 (es:=seen P f.fn (if f.kind==CallKind.early then #[]else es1)) bA (dW.go k1.rel (JE.top (JE.head.raise (.cons false false hv .nil)) (kg f _)));simpa only[stepG.apply,zBM,e,e',Ti,zAL,zBC,GStep.after]using t
end
section
variable {P:un} {F:Array Func} {S:Nat->Bool} {H:FuncId->Code->Code->Prop} {N:Nat} {p:Pi} {w w':nq} {b:Frame} {bs:List Frame} {aU:List Frame}
def Vc (P:un) (S:Nat->Bool) (main':Bool) (aU:List Frame):Prop:=aU=[]->main'=true/\∀f,S f=true->P.inits.idxOf? f=none
def dW.doReturn (hw:WR P S (KS P S) N p w w') {top:List Frame} (hf:FL P S H p (f::top) (f'::dY)) (main main':Bool) (hb:Vc P S main' aU) (hv:VR S p v v'):
 dW P S H N p w w' b bs aU (Go.doReturn P main f (top++b::bs) none v w) (Go.doReturn (ai P F) main' f' (dY++aU) none v' w'):=by
 have h1:=hf.head.kind;have h2:=hf.head.mO;have h3:=hf.head.fn;have h4:=hf.head.Tg;cases hf with
 |one h r=>
  cases aU with
  |nil=>
   obtain⟨rfl,ib⟩:=hb rfl;have hi:(ai P F).inits.idxOf? f'.fn=none:=by rw[<-h3];exact ib _ h4
   unfold Go.doReturn;simp only[h1,h2,zEG,hi];exact dW.Qf hw hv
  |cons b' zL=>unfold Go.doReturn;rw[h1,h2];exact dW.ret hw hv b' zL
 |cons h t BB=>
  unfold Go.doReturn;rw[h1,h2];cases t with
  |one h r=>exact dW.go hw (.one (h.finish hv λhj=>(BB hj _ rfl).fits _) ⟨(eF _ _).1.trans r.1,by rw[(eF _ _).2];exact r.2⟩)
  |cons h t Mt=>exact dW.go hw (.cons (h.finish hv λhj=>(BB hj _ rfl).fits _) t Mt)
def zM:Option Code->Bool
 |none=>true
 |some .ret=>true
 |_=>false
def jf (P:un) (main:Bool) (fr:Frame) (callers:List Frame) (jump:Option Code) (w:nq):GStep:=
 match fr.roundOf with
 |none=>if zM jump then .go {frame:={fr with mode:=.returning},callers,status:=.running,dying:=none} w else .ended (.stuck "exit, goto: no such block or label" (fr.pos P)) w
 |some l=>
  GStep.after (seen P fr.fn ((Instr.endRound l jump).runT P w #[]).2)<|match((Instr.endRound l jump).runT P w #[]).1 with
  |.ok v w=>Go.doReturn P main fr callers none v w
  |.halt _ w=>.ended (.stuck "range over a function: no such loop" (fr.pos P)) w
def nA (main:Bool) (f:Frame) (cs:List Frame) (hk:f.kind=.normal) (v:fu) (w:nq):gw (Go.doReturn P main f cs none v w)=w:=by
 unfold Go.doReturn;rw[hk];cases cs with
 |nil=>
  simp only;split
  .rfl
  .split<;>rfl
 |cons c cs=>rfl
def kh (main:Bool) (h:f.roundOf=none) (cs:List Frame) (jump:Option Code) (w:nq):
 jf P main f cs jump w=if zM jump then .go {frame:={f with mode:=.returning},callers:=cs,status:=.running,dying:=none} w else .ended (.stuck "exit, goto: no such block or label" (f.pos P)) w:=by
 unfold jf;split
 .rfl
 .rename_i h2;rw[h]at h2;cases h2
def kj (main:Bool) {l:Nat} (h:f.roundOf=some l) (cs:List Frame) (jump:Option Code) (w:nq):
 jf P main f cs jump w=GStep.after (seen P f.fn ((Instr.endRound l jump).runT P w #[]).2) (match((Instr.endRound l jump).runT P w #[]).1 with
 |.ok v w=>Go.doReturn P main f cs none v w
 |.halt _ w=>.ended (.stuck "range over a function: no such loop" (f.pos P)) w):=by
 unfold jf;split
 .rename_i h2;rw[h]at h2;cases h2
 .rename_i h2;rw[h]at h2;cases h2;rfl
def Mw {x y:Option Nat} (h:RR p x y):(x=none/\y=none)\/∃l l',x=some l/\y=some l'/\p l l':=by
 cases h with
 |none=>exact .inl ⟨rfl,rfl⟩
 |some h=>exact .inr ⟨_,_,rfl,rfl,h⟩
def dW.leave (hw:WR P S (KS P S) N p w w') {top:List Frame} (hf:FL P S H p (f::top) (f'::dY)) (main main':Bool) (hb:Vc P S main' aU) (jump:Option Code) (hj:∀c,jump=some c->codeOk P S c=true)
 (hm:mP m w w') (hd:(gw (jf (ai P F) main' f' (dY++aU) jump w')).drawn<=w'.drawn+m):
 dW P S H N p w w' b bs aU (jf P main f (top++b::bs) jump w) (jf (ai P F) main' f' (dY++aU) jump w'):=by
 have gX:=hf.head;rcases Mw gX.round with⟨h1,h2⟩|⟨l,l',h1,h2,hl⟩
 .rw[kh main h1,kh main' h2];cases hj:zM jump with
  |true=>exact dW.go hw (hf.top (g:={f with mode:=.returning}) (g':={f' with mode:=.returning}) ⟨gX.fn,gX.Tg,gX.tmps,gX.todo,gX.defers,.returning,gX.kind,gX.mO,gX.round,gX.yp,gX.nd,gX.wide,gX.Qc⟩ ⟨rfl,rfl⟩)
  |false=>exact dW.ended ..
 .rw[kj main' h2]at hd;rw[kj main h1,kj main' h2];rw[lj]at hd
  refine dW.run (SR.endRound hl jump hj) hw hm (ev:=λr es=>seen P f.fn es) (Va:=λr es=>seen (ai P F) f'.fn es) (λr es e he=>mem_seen he)
   (k:=fun r=>match r with|.ok v w=>Go.doReturn P main f (top++b::bs) none v w|.halt _ w=>.ended (.stuck "range over a function: no such loop" (f.pos P)) w)
   (k':=fun r=>match r with|.ok v w=>Go.doReturn (ai P F) main' f' (dY++aU) none v w|.halt _ w=>.ended (.stuck "range over a function: no such loop" (f'.pos (ai P F))) w)
   hd ?_ ?_ ?_ ?_
  .intro r;cases r with
   |ok v w=>simp only;rw[nA _ _ _ gX.mO];exact zAA _
   |halt=>exact zAA _
  .intro x w1 _;exact⟨_,_,_,rfl⟩
  .intro c n w1 iO x y tY hv _ _;exact dW.doReturn tY.rel (hf.mono (fS _ _ _ _)) main main' hb hv
  .intro c n w1 iO v v' tY hv;exact dW.ended ..
def mZ.mk' (h:mZ P S H p f f') (hl:TL P S (H f.fn) p l l') {ds pp:List Deferred} (hd:DL p ds pp) (JF:(ds=[]/\pp=[])\/∀a b,¬H f.fn a b) (hr:S JK=true->iZ P f.tmps l):mZ P S H p {f with todo:=l,defers:=ds} {f' with todo:=l',defers:=pp}:=
 ⟨h.fn,h.Tg,h.tmps,hl,hd,h.mode,h.kind,h.mO,h.round,h.yp,JF,h.wide,hr⟩
def DL.append {l l' m m':List Deferred} (h:DL p l l') (k:DL p m m'):DL p (l++m) (l'++m'):=by
 induction h with
 |nil=>exact k
 |cons g _ ih=>exact .cons g ih
end
def WR.no {P:un} {S:Nat->Bool} {K:Kz} {N:Nat} {p:Pi} {w w':nq} (h:WR P S K N p w w') {a:Prop} (x:p.l=true):a:=by rw[h.str]at x;cases x
section
variable {P:un} {F:Array Func} {S:Nat->Bool} {H:FuncId->Code->Code->Prop} {N:Nat} {p:Pi} {w w':nq} {b:Frame} {bs:List Frame} {aU:List Frame}
def fx (main:Bool) (h:f.todo=[]) (cs:List Frame) (w:nq):stepG.exec P main true f cs none w=jf P main f cs none w:=by
 obtain⟨fn,tmps,todo,ds,mode,kind,ro⟩:=f;simp only at h;subst h;cases ro<;>rfl
def fA (main:Bool) (h:f.todo=.code .ret::k) (cs:List Frame) (w:nq):stepG.exec P main true f cs none w=jf P main f cs (some .ret) w:=by
 obtain⟨fn,tmps,todo,ds,mode,kind,ro⟩:=f;simp only at h;subst h;cases ro<;>rfl
def eL {id:Nat} (main:Bool) (h:f.todo=.code (.exit id)::k) (cs:List Frame) (w:nq):
 stepG.exec P main true f cs none w=match exitTo id k with|none=>jf P main f cs (some (.exit id)) w|some t=>.go {frame:={f with todo:=t},callers:=cs,status:=.running,dying:=none} w:=by
 obtain⟨fn,tmps,todo,ds,mode,kind,ro⟩:=f;simp only at h;subst h;cases ro<;>(unfold stepG.exec;dsimp only;cases exitTo id k<;>rfl)
def eM {id:Nat} (main:Bool) (h:f.todo=.code (.goto id)::k) (cs:List Frame) (w:nq):
 stepG.exec P main true f cs none w=match gotoIn id k with|none=>jf P main f cs (some (.goto id)) w|some t=>.go {frame:={f with todo:=t},callers:=cs,status:=.running,dying:=none} w:=by
 obtain⟨fn,tmps,todo,ds,mode,kind,ro⟩:=f;simp only at h;subst h;cases ro<;>(unfold stepG.exec;dsimp only;cases gotoIn id k<;>rfl)
def aW.run {φ:α->Prop}:∀{s:Sem α},aW P φ s->∀{w w1:nq} {es es1:Array Event} {x:α},s.runT P w es=(.ok x w1,es1)->φ x:=by
 intro s;induction s with
 |pure a=>intro g w w1 es es1 x h;simp only[Sem.runT,zAH,Result.ok.injEq]at h;rw[<-h.1.1];exact g
 |halt y=>intro g w w1 es es1 x h;simp[Sem.runT]at h
 |program k ih=>intro g w w1 es es1 x h;unfold Sem.runT at h;exact ih P g h
 |store m a v k ih=>
  intro g w w1 es es1 x h;cases v<;>unfold Sem.runT at h;all_goals repeat' (split at h)
  all_goals first|exact ih g h|(cases h;done)|(simp at h;done)
 |new o k ih=>intro g w w1 es es1 x h;unfold Sem.runT at h;exact ih _ (g _) h
 |shape r k ih=>intro g w w1 es es1 x h;unfold Sem.runT at h;exact ih _ (g _) h
 |freeze a n k ih=>intro g w w1 es es1 x h;unfold Sem.runT at h;exact ih g h
 |frozen a k ih=>intro g w w1 es es1 x h;unfold Sem.runT at h;exact ih _ (g _) h
 |sys c k ih=>intro g w w1 es es1 x h;unfold Sem.runT at h;exact ih _ (g _) h
 |mark m k ih=>intro g w w1 es es1 x h;unfold Sem.runT at h;exact ih g h
 |_=>
  rename_i ih;intro g w w1 es es1 x h;unfold Sem.runT at h;repeat' (split at h)
  all_goals first
   |exact ih _ (g _) h
   |exact ih g h
   |(simp at h;done)
   |(cases h;done)
def aW.yq (a:Addr):∀(n i:Nat) (acc:Array fu),aW P (λcs=>cs.size=acc.size+n) (Go.loadCellsFrom a i n acc)
 |0,i,acc=>rfl
 |n+1,i,acc=>λv=>by
  have h:=aW.yq a n (i+1) (acc.push v);refine aW.mono (λcs rP=>?_) h;rw[rP,Array.size_push];omega
def aW.loadVar (t:a00) (a:Addr):aW P (λv=>gW P t=true->uY (uX P t) v) (Go.loadVar t a):=by
 unfold Go.loadVar Go.isAgg;refine aW.bind (φ:=λb=>b=gW P t) (λb hb=>?_) (aW.cT λu hu=>?_)
 .subst hb;cases h:gW P t with
  |true=>
   simp only[zBM];refine aW.bind (λn hn=>?_) (aW.sizeOf t);subst hn;refine aW.bind (λcs rP=>?_) (aW.yq a (uX P t) 0 #[]);intro _ xs e;cases e;simpa using rP
  |false=>exact aW.mono (λv _ hx=>by cases hx) (aW.all _)
 .unfold gW;rw[hu];cases u<;>exact rfl
def Ck {r:Operand->fu} {w:nq} {es1:Array Event} {x:Next} (h:(execOp r o).runT P w es=(.ok x w1,es1)) (hf:∀o2,f.oper?=some o2->o2=o):Fl P f x:=by
 by_cases hl:Ms o.op=true
 .cases cr:o.op<;>rw[cr]at hl<;>first|(cases hl;done)|skip
  rename_i t a
  have key:aW P (λx=>∃v,x=.value v/\(gW P t=true->uY (uX P t) v)) (execOp r o):=by
   unfold execOp;simp only[cr];have hb:∀v,(gW P t=true->uY (uX P t) v)->aW P (λx=>∃v,x=Next.value v/\(gW P t=true->uY (uX P t) v)) ((λv=>(Pure.pure (Next.value v):Sem Next)) v):=λv hv=>⟨v,rfl,hv⟩
   refine aW.bind (φ:=λv=>gW P t=true->uY (uX P t) v) hb ?_;unfold Instr.loadAt;exact aW.Zt λb=>aW.loadVar t b
  obtain⟨v,rfl,hv⟩:=key.run h;intro o2 qK n hn;rw[hf o2 qK,cr]at hn;simp only[Ia]at hn;split at hn
  .rename_i ha;cases hn;exact hv ha
  .cases hn
 .have je:lZ f:=λo2 qK=>by rw[hf o2 qK];simpa using hl
  cases x<;>first|exact je.fits _|exact je|trivial
def dW.exec (hc:Closed P F S H) (hw:WR P S (KS P S) N p w w') (hg:jJ P S p) {top:List Frame} (hf:FL P S H p (f::top) (f'::dY)) (hnh:∀c c' k k',f.todo=.code c::k->f'.todo=.code c'::k'->¬H f.fn c c') (je:f'.mode=.run->¬ny S f') (kX:f'.mode=.run) (main main':Bool) (hb:Vc P S main' aU)
 (hm:mP m w w') (hd:(gw (stepG.exec (ai P F) main' true f' (dY++aU) none w')).drawn<=w'.drawn+m):
 dW P S H N p w w' b bs aU (stepG.exec P main true f (top++b::bs) none w) (stepG.exec (ai P F) main' true f' (dY++aU) none w'):=by
 have gX:=hf.head
 have wZ:∀{l l':List Item},TL P S (H f.fn) p l l'->(S JK=true->iZ P f.tmps l)->dW P S H N p w w' b bs aU (.go {frame:={f with todo:=l},callers:=top++b::bs,status:=.running,dying:=none} w) (.go {frame:={f' with todo:=l'},callers:=dY++aU,status:=.running,dying:=none} w'):=
  λh hr=>dW.go hw (hf.top (gX.Fi h hr) ⟨rfl,rfl⟩)
 have Vd:=gX.Qc;have ht:=gX.todo;have bA:=gX.eval hg;generalize h1:f.todo=t at ht;generalize h2:f'.todo=t' at ht;cases ht with
 |nil=>
  rw[fx main' h2]at hd;rw[fx main h1,fx main' h2];exact dW.leave hw hf main main' hb none (λc h=>by cases h) hm hd
 | @cons i i' k k' hi ht=>
   rw[h1]at Vd;have Cm:S JK=true->∀x∈k,iY x=true:=λhj=>(Vd hj).1;have r0:S JK=true->iZ P f.tmps k:=λhj=>iZ.no (Cm hj);have r1:∀{a:Item},iY a=true->S JK=true->iZ P f.tmps (a::k):=λha hj=>iZ.put (Cm hj) ha;have r2:∀{a c:Item},iY a=true->iY c=true->S JK=true->iZ P f.tmps (a::c::k):=λha hc hj=>iZ.zey (Cm hj) ha hc;cases hi with
   | @code c c' Tj=>
     cases Tj with
     |hole hh=>exact absurd hh (hnh _ _ _ _ h1 h2)
     |seq ha hb=>unfold stepG.exec;simp only[h1,h2];exact wZ (.cons (.code ha) (.cons (.code hb) ht)) (r2 rfl rfl)
     |block id ha=>unfold stepG.exec;simp only[h1,h2];exact wZ (.cons (.code ha) (.cons (.inBlock id) ht)) (r2 rfl rfl)
     |loop ha=>unfold stepG.exec;simp only[h1,h2];exact wZ (.cons (.code ha) (.cons (.inLoop ha) ht)) (r2 rfl rfl)
     |refuse why c2 hr=>unfold stepG.exec;simp only[h1];exact dW.ended ..
     | @cond x a a' c c' hx ha hb=>
       have hx:=bA.at hx;unfold stepG.exec;simp only[h1,h2];revert hx;generalize f.eval x=v;generalize f'.eval x=v';intro hx;cases hx<;>first|exact dW.ended .. |skip
       rename_i bo;refine wZ (.cons (.code ?_) ht) (r1 rfl);cases bo
       .exact hb
       .exact ha
     |same gS LM=>
      cases c with
      |ret=>
       rw[fA main' h2]at hd;rw[fA main h1,fA main' h2];exact dW.leave hw hf main main' hb (some .ret) (λc h=>by cases h;rfl) hm hd
      |exit id=>
       rw[eL main' h2]at hd;rw[eL main h1,eL main' h2];rcases Fj id ht with⟨e1,e2⟩|⟨j,j',e1,e2,hj⟩
       .rw[e2]at hd;rw[e1,e2];exact dW.leave hw hf main main' hb (some (.exit id)) (λc h=>by cases h;rfl) hm hd
       .rw[e1,e2];exact wZ hj λtZ=>iZ.no (JB id (Cm tZ) e1)
      |goto id=>
       rw[eM main' h2]at hd;rw[eM main h1,eM main' h2];rcases Fk id ht with⟨e1,e2⟩|⟨j,j',e1,e2,hj⟩
       .rw[e2]at hd;rw[e1,e2];exact dW.leave hw hf main main' hb (some (.goto id)) (λc h=>by cases h;rfl) hm hd
       .rw[e1,e2];exact wZ hj λtZ=>iZ.no (JC id (Cm tZ) e1)
      |skip=>
       unfold stepG.exec;simp only[h1,h2];exact wZ ht r0
      |label l=>
       unfold stepG.exec;simp only[h1,h2];exact wZ ht r0
      |seq a c=>
       simp only[codeOk,dB,zAF]at gS LM;unfold stepG.exec;simp only[h1,h2];exact wZ (.cons (.code (.same gS.1 (LM.imp And.left λx=>x))) (.cons (.code (.same gS.2 (LM.imp And.right λx=>x))) ht)) (r2 rfl rfl)
      |cond x a c=>
       simp only[codeOk,dB,zAF]at gS LM;have hx:=bA.at gS.1.1;unfold stepG.exec;simp only[h1,h2];revert hx;generalize f.eval x=v;generalize f'.eval x=v';intro hx;cases hx<;>first|exact dW.ended .. |skip
       rename_i bo;refine wZ (.cons (.code ?_) ht) (r1 rfl);cases bo
       .exact .same gS.2 (LM.imp And.right λx=>x)
       .exact .same gS.1.2 (LM.imp And.left λx=>x)
      |block id c=>
       unfold stepG.exec;simp only[h1,h2];exact wZ (.cons (.code (.same gS LM)) (.cons (.inBlock id) ht)) (r2 rfl rfl)
      |loop c=>
       unfold stepG.exec;simp only[h1,h2];exact wZ (.cons (.code (.same gS LM)) (.cons (.inLoop (.same gS LM)) ht)) (r2 rfl rfl)
      |scope c=>
       unfold stepG.exec;simp only[h1,h2];exact wZ (.cons (.code (.same gS LM)) (.cons (.inScope gS LM) ht)) (r2 rfl rfl)
      |refuse why=>unfold stepG.exec;simp only[h1,h2];exact dW.ended ..
      |region id ops draw=>
       simp only[codeOk,zAF]at gS;have ve:∀o∈ops,(qI P S o.op||ia S o.op)=true:=λo ho=>(Array.all_eq_true_iff_forall_mem.1 gS.1) o ho
       have hsk:S JK=true->Cg P ops=true->draw=false/\Qb P ops=true:=λhj hh=>by
        have h3:=gS.2;rw[hj,hh]at h3;simpa using h3
       unfold stepG.exec at hd⊢;simp only[h1,h2]at hd⊢;cases draw with
       |false=>exact wZ (.cons (.inRegion _ ve) ht) λhj=>⟨Cm hj,λzeB is2 e=>by cases e;exact λhh=>KR.start (S:=S) (hsk hj hh).2 hh⟩
       |true=>
        simp only[zEJ,zAL,zBC,choose,Sem.run,Question.forced,Question.cut]at hd⊢
        have Jv:0<m:=by
         simp only[gw]at hd;omega
        have ht0:=hm 0 Jv (.order f'.fn id);simp only[zCH]at ht0;have ht1:w.tape w.drawn (.order f.fn id)=w'.tape w'.drawn (.order f'.fn id):=by rw[gX.fn];exact ht0
        rw[ht1];have lL:WR P S (KS P S) N p {w with drawn:=w.drawn+1} {w' with drawn:=w'.drawn+1}:=⟨hw.inj,hw.blk,hw.low,hw.fix,hw.gY,hw.kZ,hw.str,hw.xv⟩
        have yf:cY P S (KS P S) N p w w' 0 1 {w with drawn:=w.drawn+1} {w' with drawn:=w'.drawn+1}:=
         ⟨by rw[bU];exact lL,rfl,rfl,rfl,rfl,rfl,rfl,rfl,rfl,λ_ _ _=>rfl⟩
        refine .inr (.inr ⟨0,1,_,_,#[],#[],yf,by simp,.inl ⟨_,_,top,dY,?_,rfl,rfl⟩⟩);rw[bU];exact hf.top (gX.Fi (.cons (.inRegion _ ve) ht) λhj=>⟨Cm hj,λzeB is2 e=>by cases e;exact λhh=>by have:=(hsk hj hh).1;cases this⟩) ⟨rfl,rfl⟩
      |rangeFunc x ps a c=>
       simp only[codeOk,zAF]at gS;unfold stepG.exec at hd⊢;simp only[h1,h2]at hd⊢;rw[lj]at hd;have je:=LM.resolve_left (by simp[dB]);have hz:=Qh ((hc.yp f.fn gX.Tg).1 je)
       refine dW.run (SR.enterLoop gX.fn gX.Tg hz gX.tmps ps gS.1.2 gS.2 gX.round) hw hm (ev:=λr es=>seen P f.fn es) (Va:=λr es=>seen (ai P F) f'.fn es) (λr es e he=>mem_seen he)
        (k:=λr=>match r with
          |.ok (l,mark) w=>stepG.apply P true {f with todo:=.inRangeFunc l::k,defers:=mark++f.defers} (top++b::bs) none
             (do let d<-resolve (Frame.eval {f with todo:=.inRangeFunc l::k,defers:=mark++f.defers}) {callee:=.value x,args:=#[.const (.func (.yield l) #[] #[])],argTypes:=#[]} 0;invoke d.target d.args) w
          |.halt _ w=>.ended (.stuck "range over a function: no such loop" (f.pos P)) w)
        (k':=λr=>match r with
          |.ok (l,mark) w=>stepG.apply (ai P F) true {f' with todo:=.inRangeFunc l::k',defers:=mark++f'.defers} (dY++aU) none
             (do let d<-resolve (Frame.eval {f' with todo:=.inRangeFunc l::k',defers:=mark++f'.defers}) {callee:=.value x,args:=#[.const (.func (.yield l) #[] #[])],argTypes:=#[]} 0;invoke d.target d.args) w
          |.halt _ w=>.ended (.stuck "range over a function: no such loop" (f'.pos (ai P F))) w)
        ?_ ?_ ?_ ?_ ?_
       .exact hd
       .intro r;cases r with
        |ok x w1=>exact zAM (pB (ai P F) _ w1 #[]) (sU ..)
        |halt=>exact zAA _
       .intro x w1 _;exact⟨_,_,_,rfl⟩
       .intro cc n w1 iO y y' tY hy yf Ic;obtain⟨l,mark⟩:=y;obtain⟨l',vi⟩:=y';have hle:=fS p w.heap.size w'.heap.size cc;have ZE:=(gX.mono hle).mk' (.cons (.qL hy.1 je) (ht.mono hle)) (hy.2.append (gX.defers.mono hle)) (.inr je) (r1 rfl);refine dW.apply hc tY.rel ((hf.mono hle).top ZE ⟨rfl,rfl⟩) yf ?_ Ic λ_ _ x _ _ _=>Fl.no rfl x;refine SR.nu hc.pG ?_ ?_
        .exact(ZE.eval (hg.mono hle)).at gS.1.1
        .have:=AR.one (S:=S) (VR.yield (S:=S) hy.1);simpa [Frame.eval]using this
       .intro cc n w1 iO v v' tY hv;exact dW.ended ..
   | @inBlock id=>unfold stepG.exec;simp only[h1,h2];exact wZ ht r0
   | @inScope c gS _=>unfold stepG.exec;simp only[h1,h2];exact wZ ht r0
   | @inLoop c c' Tj=>unfold stepG.exec;simp only[h1,h2];exact wZ (.cons (.code Tj) (.cons (.inLoop Tj) ht)) (r2 rfl rfl)
   | @qL l l' hl _=>unfold stepG.exec;simp only[h1,h2];exact dW.ended ..
   | @begin=>
     unfold stepG.exec at hd⊢;simp only[h1,h2]at hd⊢;refine dW.apply hc hw hf hm ?_ hd λ_ _ x _ _ _=>Fl.no (by unfold Frame.oper?;rw[h1]) x;rcases Mw gX.round with⟨e1,e2⟩|⟨l,l',e1,e2,hl⟩
     .rw[e1,e2];exact(SR.stuck (α:=Unit) (β:=Unit) (Q:=QE Unit)).aE λq _ hq=>SR.pure .skip
     .rw[e1,e2];exact(SR.beginRound hl).aE λq _ hq=>SR.pure .skip
   | @li l l' hl je=>
     unfold stepG.exec at hd⊢;simp only[h1,h2]at hd⊢;rw[lj]at hd
     refine dW.run (SR.endLoop hl) hw hm (ev:=λr es=>seen P f.fn es) (Va:=λr es=>seen (ai P F) f'.fn es) (λr es e he=>mem_seen he)
      (k:=λr=>match r with
        |.ok jump w=>.go {frame:={f with todo:=(jump.map Item.code).toList++k},callers:=top++b::bs,status:=.running,dying:=none} w
        |.halt (.panic v) w=>.go {frame:=f.raise [{v,recovered:=false}],callers:=top++b::bs,status:=.running,dying:=none} w
        |.halt _ w=>.ended (.stuck "range over a function: no such loop" (f.pos P)) w)
      (k':=λr=>match r with
        |.ok jump w=>.go {frame:={f' with todo:=(jump.map Item.code).toList++k'},callers:=dY++aU,status:=.running,dying:=none} w
        |.halt (.panic v) w=>.go {frame:=f'.raise [{v,recovered:=false}],callers:=dY++aU,status:=.running,dying:=none} w
        |.halt _ w=>.ended (.stuck "range over a function: no such loop" (f'.pos (ai P F))) w)
      hd ?_ ?_ ?_ ?_
     .intro r;cases r with
      |ok x w1=>exact zAA _
      |halt x w1=>cases x<;>exact zAA _
     .intro x w1 hx;cases x<;>first|exact⟨_,_,_,rfl⟩|exact absurd hx id
     .intro cc n w1 iO y y' tY hy yf Ic;have hle:=fS p w.heap.size w'.heap.size cc;obtain⟨rfl,hy⟩:=hy;refine dW.go tY.rel ((hf.mono hle).top ((gX.mono hle).Fi ?_ λhj=>iZ.no λx hx=>?_) ⟨rfl,rfl⟩)
      .cases y with
       |none=>exact ht.mono hle
       |some c=>exact .cons (.code (.same (hy c rfl) (.inr je))) (ht.mono hle)
      .rcases zCD.1 hx with hx|hx
       .cases y with
        |none=>cases hx
        |some c=>simp at hx;subst hx;rfl
       .exact Cm hj x hx
     .intro cc n w1 iO v v' tY hv;have hle:=fS p w.heap.size w'.heap.size cc;exact dW.go tY.rel ((hf.mono hle).top ((gX.mono hle).raise (.cons false false hv .nil)) (kg f _))
   | @inRegion ops is ve=>
     cases is with
     |nil=>unfold stepG.exec;simp only[h1,h2];exact wZ ht r0
     |cons i is=>
      unfold stepG.exec at hd⊢;simp only[h1,h2]at hd⊢;have hy:∀j,yielded ops f'.tmps j=yielded ops f.tmps j:=λj=>(sS ops gX.tmps j).symm;have ZF:(yielded ops f'.tmps)=(yielded ops f.tmps):=funext hy;rw[ZF]at hd⊢;split at hd
      .rename_i nB;rw[zAE nB,zAE nB];have BD:f.oper?=ops[i]?:=by unfold Frame.oper?;rw[h1]
       have qK:f'.oper?=ops[i]?:=by unfold Frame.oper?;rw[h2]
       unfold stepG.oper at hd⊢;rw[BD,qK];rw[qK]at hd;cases ho:ops[i]? with
       |none=>exact dW.ended ..
       |some o=>
        rw[ho]at hd
        have Ve:qI P S o.op=true:=by
         have h0:=ve o (zDN ho);rw[zBQ]at h0;refine h0.resolve_right λh3=>je kX ⟨kX,o,ops,i,is,_,h2,ho,h3,?_⟩;rw[ZF];rw[ho]at nB;simpa using nB
        have JF:∀c,o.op≠ .defer c:=by
         intro c LO;rw[LO]at Ve;simp[qI]at Ve
        have key:∀(P:un) (fr:Frame) (cs:List Frame) (w:nq),(match fr.roundOf,o.op with
         |some l,.defer c=>stepG.apply P true fr cs none (do Instr.deferInRound l (<-resolve fr.eval c o.type);pure .skip) w
         |_,_=>stepG.apply P true fr cs none (execOp fr.eval o) w)=stepG.apply P true fr cs none (execOp fr.eval o) w:=by
         intro P fr cs w;split
         .rename_i hx;exact absurd hx (JF _)
         .rfl
        have Ye:(gw (stepG.apply (ai P F) true f' (dY++aU) none (execOp f'.eval o) w')).drawn<=w'.drawn+m:=by
         rw[<-key (ai P F) f' (dY++aU) w'];exact hd
        have e1:=key P f (top++b::bs) w;have e2:=key (ai P F) f' (dY++aU) w';refine Eq.mpr (congr (zBE (dW P S H N p w w' b bs aU) e1) e2) ?_;exact dW.apply hc hw hf hm (SR.execOp hw.no hc.jp hc.eE hc.pG bA o Ve hw.no hw.no λhj=>KR.fits ((Vd hj).2 _ _ rfl) ho λs=>rfl) Ye λhj es x w1 es1 he=>Ck he λo2 qK=>by rw[BD,ho]at qK;exact(zAW qK).symm
      .rename_i nB;rw[zAG nB,zAG nB];exact dW.go hw (hf.top (gX.finish VR.undef λ_ o _ n _=>pF n) (eF f _))
end
section
variable {P:un} {F:Array Func} {S:Nat->Bool} {H:FuncId->Code->Code->Prop} {N:Nat} {p:Pi} {w w':nq} {b:Frame} {bs:List Frame} {aU:List Frame}
def qN {H:Code->Code->Prop} (h:TL P S H p l l'):∀d x r s k,l≠ .call d x r s::k/\l'≠ .call d x r s::k:=by
 intro d x r s k;cases h with
 |nil=>exact⟨by simp,by simp⟩
 |cons hi ht=>cases hi<;>exact⟨by simp,by simp⟩
def pJ (h:∀d x r s k,f.todo≠ .call d x r s::k):f.catches P=false:=by
 unfold Frame.catches;split
 .rename_i hh;exact absurd hh (h _ _ _ _ _)
 .rfl
def dW.unwind (hc:Closed P F S H) (hw:WR P S (KS P S) N p w w') {top:List Frame} (hf:FL P S H p (f::top) (f'::dY)) (main main':Bool) (hb:Vc P S main' aU)
 (hm:mP m w w') (hd:(gw (Go.unwind (ai P F) main' f' (dY++aU) none w')).drawn<=w'.drawn+m):
 dW P S H N p w w' b bs aU (Go.unwind P main f (top++b::bs) none w) (Go.unwind (ai P F) main' f' (dY++aU) none w'):=by
 have gX:=hf.head;have LP:=gX.defers;generalize h1:f.defers=t at LP;generalize h2:f'.defers=t' at LP;unfold Go.unwind at hd⊢;rw[h1,h2];rw[h2]at hd;cases LP with
 | @cons r r' l l' hr hl=>
   simp only[lj]at hd⊢
   refine dW.run (SR.takeDeferred hr) hw hm (ev:=λr es=>seen P f.fn es) (Va:=λr es=>seen (ai P F) f'.fn es) (λr es e he=>mem_seen he)
    (k:=fun r=>match r with|.ok calls w=>.go {frame:={f with defers:=calls++l},callers:=top++b::bs,status:=.running,dying:=none} w|.halt _ w=>.ended (.stuck "the deferred calls of a range-over-func loop have been taken" (f.pos P)) w)
    (k':=fun r=>match r with|.ok calls w=>.go {frame:={f' with defers:=calls++l'},callers:=dY++aU,status:=.running,dying:=none} w|.halt _ w=>.ended (.stuck "the deferred calls of a range-over-func loop have been taken" (f'.pos (ai P F))) w)
    hd ?_ ?_ ?_ ?_
   .intro r;cases r<;>exact zAA _
   .intro x w1 _;exact⟨_,_,_,rfl⟩
   .intro c n w1 iO y y' tY hy _ _;obtain⟨rfl,rfl⟩:=hy;have hle:=fS p w.heap.size w'.heap.size c;exact dW.go tY.rel ((hf.mono hle).top ((gX.mono hle).mk' (gX.todo.mono hle) (hl.mono hle) (.inr (gX.nd.resolve_left λx=>by rw[h1]at x;cases x.1)) gX.Qc) ⟨rfl,rfl⟩)
   .intro c n w1 iO v v' tY hv;exact dW.ended ..
 |nil=>
  simp only at hd⊢;have kX:=gX.mode;generalize g1:f.mode=o at kX;generalize g2:f'.mode=o' at kX;rw[g2]at hd;cases kX with
  |run=>exact dW.ended ..
  | @panicking l l' hl=>
    simp only;have n1:=pJ (P:=P) (f:=f) λd x r s k=>(qN gX.todo d x r s k).1;have n2:=pJ (P:=ai P F) (f:=f') λd x r s k=>(qN gX.todo d x r s k).2;simp only[n1,n2,zAL,zBC];cases hf with
    |one h r=>exact dW.raised hl ..
    |cons h t BB=>
     cases t with
     |one h r=>exact dW.go hw (.one (h.raise hl) ⟨(kg _ _).1.trans r.1,by rw[(kg _ _).2];exact r.2⟩)
     |cons h t Mt=>exact dW.go hw (.cons (h.raise hl) t Mt)
  |returning=>
   simp only at hd⊢;rw[<-gX.fn]at hd⊢;rcases hc.body f.fn gX.Tg with⟨e1,e2⟩|⟨fn,oS,_,_,e1,e2,_,_,_,_,_,_,e3⟩
   .rw[e1,e2];exact dW.doReturn hw hf main main' hb (gX.tmps.getD 0 VR.undef)
   .rw[e1,e2];rw[e2]at hd;simp only[lj]at hd⊢
    refine dW.run (SR.results e3 gX.tmps) hw hm (ev:=λr es=>seen P f.fn es) (Va:=λr es=>seen (ai P F) f.fn es) (λr es e he=>mem_seen he)
     (k:=fun r=>match r with|.ok v w=>Go.doReturn P main f (top++b::bs) none v w|.halt (.stuck s) w=>.ended (.stuck s (f.pos P)) w|.halt _ w=>.ended (.stuck "return: the result variables cannot be read" (f.pos P)) w)
     (k':=fun r=>match r with|.ok v w=>Go.doReturn (ai P F) main' f' (dY++aU) none v w|.halt (.stuck s) w=>.ended (.stuck s (f'.pos (ai P F))) w|.halt _ w=>.ended (.stuck "return: the result variables cannot be read" (f'.pos (ai P F))) w)
     hd ?_ ?_ ?_ ?_
    .intro r;cases r with
     |ok v w=>simp only;rw[nA _ _ _ gX.mO];exact zAA _
     |halt x=>cases x<;>exact zAA _
    .intro x w1 hx;cases x<;>exact⟨_,_,_,rfl⟩
    .intro c n w1 iO x y tY hv _ _;exact dW.doReturn tY.rel (hf.mono (fS _ _ _ _)) main main' hb hv
    .intro c n w1 iO v v' tY hv;exact dW.ended ..
def dW.step (hc:Closed P F S H) (hw:WR P S (KS P S) N p w w') (hg:jJ P S p) {top:List Frame} (hf:FL P S H p (f::top) (f'::dY)) (hnh:∀c c' k k',f.mode=.run->f.todo=.code c::k->f'.todo=.code c'::k'->¬H f.fn c c') (je:¬ny S f') (main main':Bool) (hb:Vc P S main' aU)
 (hm:mP m w w') (hd:(gw (stepG (ai P F) main' {frame:=f',callers:=dY++aU,status:=.running,dying:=none} w')).drawn<=w'.drawn+m):
 dW P S H N p w w' b bs aU (stepG P main {frame:=f,callers:=top++b::bs,status:=.running,dying:=none} w)
  (stepG (ai P F) main' {frame:=f',callers:=dY++aU,status:=.running,dying:=none} w'):=by
 have kX:=hf.head.mode
 have bh:∀(P:un) (main:Bool) (f:Frame) (cs:List Frame) (w:nq),f.mode=.run->stepG P main {frame:=f,callers:=cs,status:=.running,dying:=none} w=stepG.exec P main true f cs none w:=by
  intro P main f cs w h;unfold stepG;simp only[h]
 have hun:∀(P:un) (main:Bool) (f:Frame) (cs:List Frame) (w:nq),f.mode≠ .run->stepG P main {frame:=f,callers:=cs,status:=.running,dying:=none} w=Go.unwind P main f cs none w:=by
  intro P main f cs w h;unfold stepG;simp only
 by_cases h:f.mode=.run
 .have h':f'.mode=.run:=by
   rw[h]at kX;generalize f'.mode=o at kX;cases kX;rfl
  rw[bh _ _ _ _ _ h']at hd;rw[bh _ _ _ _ _ h,bh _ _ _ _ _ h'];exact dW.exec hc hw hg hf (λc c' k k'=>hnh c c' k k' h) (λ_=>je) h' main main' hb hm hd
 .have h':f'.mode≠ .run:=by
   intro e;rw[e]at kX;generalize hx:f.mode=o at kX;cases kX;exact h hx
  rw[hun _ _ _ _ _ h']at hd;rw[hun _ _ _ _ _ h,hun _ _ _ _ _ h'];exact dW.unwind hc hw hf main main' hb hm hd
end
def new (w w1:nq):Nat->Prop:=λr=>w.heap.size<=r/\r<w1.heap.size
def aJ (kn:Nat->Prop) (w w1:nq):Nat->Prop:=λr=>kn r\/new w w1 r
structure Env (kn:Nat->Prop) (w w2:nq):Prop where
 size:w.heap.size<=w2.heap.size
 same:∀r,kn r->w2.heap[r]?=w.heap[r]?
 os:w2.os=w.os
 out:w2.output=w.output
def Env.refl (kn:Nat->Prop) (w:nq):Env kn w w:=⟨zAA _,λ_ _=>rfl,rfl,rfl⟩
def Env.trans {w:nq} (h:Env kn w w1) (k:Env kn w1 w2):Env kn w w2:=
 ⟨zAM h.1 k.1,λr hr=>(k.2 r hr).trans (h.2 r hr),k.os.trans h.os,k.out.trans h.out⟩
def Id (kn own:Nat->Prop) (e:Event):Prop:=
 e=noRoomEvent\/(e.sync=false/\∃r,kn r/\((∃a:Addr,e.loc=.cell a/\a.block=r)\/e.loc=.obj r)/\(e.write=true->own r))
structure Fair (kn own:Nat->Prop) (w w1:nq) (es:Array Event):Prop where
 size:w.heap.size<=w1.heap.size
 others:∀r,r<w.heap.size->¬own r->w1.heap[r]?=w.heap[r]?
 os:w1.os=w.os
 out:w1.output=w.output
 tape:w1.tape=w.tape
 drawn:w.drawn<=w1.drawn
 ev:∀e∈es,Id (aJ kn w w1) (aJ own w w1) e
abbrev jx (f:Frame) (cs:List Frame):Goroutine:={frame:=f,callers:=cs,status:=.running,dying:=none}
abbrev qO:=(Nat->Prop)->(Nat->Prop)->fu->nq->Prop
abbrev m6:=(Nat->Prop)->(Nat->Prop)->Frame->nq->Prop
abbrev eG:=(Nat->Prop)->(Nat->Prop)->Frame->nq->fu->nq->(Nat->Prop)->(Nat->Prop)->Prop
abbrev Yh:=(Nat->Prop)->(Nat->Prop)->Frame->List Frame->nq->Prop
def Body (Q:un) (main:Bool) (base:List Frame) (Fin:qO) (HA:m6) (HP:eG) (I:Yh):Yh:=λkn own f top w=>
 ∀w2,Env kn w w2->
  (∃w3 es f2 qP,stepG Q main (jx f (top++base)) w2=.go (jx f2 (qP++base)) w3 es/\Fair kn own w2 w3 es/\I (aJ kn w2 w3) (aJ own w2 w3) f2 qP w3)\/
  (∃w3 es v b bs,base=b::bs/\stepG Q main (jx f (top++base)) w2=.go (jx (b.finish v) bs) w3 es/\Fair kn own w2 w3 es/\Fin (aJ kn w2 w3) (aJ own w2 w3) v w3)\/
  (∃w3 es v,base=[]/\stepG Q main (jx f (top++base)) w2=.ended (.done v) w3 es/\Fair kn own w2 w3 es/\Fin (aJ kn w2 w3) (aJ own w2 w3) v w3)\/
  (HA kn own f w2/\∃c rest,top=c::rest/\∀v w3 fH bQ,HP kn own f w2 v w3 fH bQ->I fH bQ (c.finish v) rest w3)
def CT (Q:un) (main:Bool) (base:List Frame) (Fin:qO) (HA:m6) (HP:eG):Yh:=λkn own f top w=>
 ∀I:Yh,(∀kn own f top w,Body Q main base Fin HA HP I kn own f top w->I kn own f top w)->I kn own f top w
section
variable {Q:un} {main:Bool} {base:List Frame} {Fin:qO} {HA:m6} {HP:eG}
def Body.mono {I J:Yh} (h:∀kn own f top w,I kn own f top w->J kn own f top w) {top:List Frame} {w:nq} (x:Body Q main base Fin HA HP I kn own f top w):Body Q main base Fin HA HP J kn own f top w:=by
 intro w2 he;rcases x w2 he with⟨w3,es,f2,qP,h1,h2,h3⟩|x|x|⟨h1,c,rest,hc,h2⟩
 .exact .inl ⟨w3,es,f2,qP,h1,h2,h _ _ _ _ _ h3⟩
 .exact .inr (.inl x)
 .exact .inr (.inr (.inl x))
 .exact .inr (.inr (.inr ⟨h1,c,rest,hc,λv w3 fH bQ hp=>h _ _ _ _ _ (h2 v w3 fH bQ hp)⟩))
def CT.mk {kn own:Nat->Prop} {f:Frame} {top:List Frame} {w:nq} (h:Body Q main base Fin HA HP (CT Q main base Fin HA HP) kn own f top w):CT Q main base Fin HA HP kn own f top w:=
 λI hI=>hI _ _ _ _ _ (h.mono λ_ _ _ _ _ x=>x I hI)
def CT.ind {I:Yh} (hI:∀kn own f top w,Body Q main base Fin HA HP (λkn own f top w=>I kn own f top w/\CT Q main base Fin HA HP kn own f top w) kn own f top w->I kn own f top w)
 {top:List Frame} {w:nq} (h:CT Q main base Fin HA HP kn own f top w):I kn own f top w:=
 (h (λkn own f top w=>I kn own f top w/\CT Q main base Fin HA HP kn own f top w) λ_ _ _ _ _ x=>⟨hI _ _ _ _ _ x,CT.mk (x.mono λ_ _ _ _ _ y=>y.2)⟩).1
end
def lp (p:Pi):Nat->Prop:=λr'=>∃r,p r r'
def cJ (N:Nat) (p:Pi):Nat->Prop:=λr'=>∃r,p r r'/\N<=r
def Qi (p:Pi) (L C c:Nat):lp (ext p L C c)=λr'=>lp p r'\/(C<=r'/\r'<C+c):=by
 funext r';apply propext;constructor
 .rintro⟨r,h|⟨k,hk,h1,h2⟩⟩
  .exact .inl ⟨r,h⟩
  .exact .inr ⟨by omega,by omega⟩
 .rintro(⟨r,h⟩|⟨h1,h2⟩)
  .exact⟨r,.inl h⟩
  .exact⟨L+(r'-C),.inr ⟨r'-C,by omega,rfl,by omega⟩⟩
def JG {N:Nat} (p:Pi) {L:Nat} (hN:N<=L) (C c:Nat):cJ N (ext p L C c)=λr'=>cJ N p r'\/(C<=r'/\r'<C+c):=by
 funext r';apply propext;constructor
 .rintro⟨r,h|⟨k,hk,h1,h2⟩,hr⟩
  .exact .inl ⟨r,h,hr⟩
  .exact .inr ⟨by omega,by omega⟩
 .rintro(⟨r,h,hr⟩|⟨h1,h2⟩)
  .exact⟨r,.inl h,hr⟩
  .exact⟨L+(r'-C),.inr ⟨r'-C,by omega,rfl,by omega⟩,by omega⟩
section
variable {P:un} {S:Nat->Bool} {N:Nat} {p:Pi}
def WR.env {w:nq} (h:WR P S (KS P S) N p lw w) (he:Env (lp p) w w2):WR P S (KS P S) N p lw w2:=
 ⟨h.inj,λr r' hr=>by
   obtain⟨o,o',h1,h2,h3⟩:=h.blk r r' hr;exact⟨o,o',h1,(he.2 r' ⟨r,hr⟩).trans h2,h3⟩,h.low,h.fix,h.gY,zAM h.kZ he.1,h.str,h.xv⟩
def WR.tape {w:nq} (h:WR P S (KS P S) N p lw w) (T:Nat->Question->Nat) (d:Nat):WR P S (KS P S) N p {lw with tape:=T,drawn:=d} w:=
 ⟨h.inj,h.blk,h.low,h.fix,h.gY,h.kZ,h.str,h.xv⟩
def cY.fair {w lw1:nq} (hw:WR P S (KS P S) N p lw w) (h:cY P S (KS P S) N p lw w c n lw1 w1) (he:∀e∈es,Pn N (ext p lw.heap.size w.heap.size c) e):
 Fair (lp p) (cJ N p) w w1 es/\lp (ext p lw.heap.size w.heap.size c)=aJ (lp p) w w1/\cJ N (ext p lw.heap.size w.heap.size c)=aJ (cJ N p) w w1:=by
 have e1:lp (ext p lw.heap.size w.heap.size c)=aJ (lp p) w w1:=by
  rw[Qi];unfold aJ new;rw[h.nh]
 have e2:cJ N (ext p lw.heap.size w.heap.size c)=aJ (cJ N p) w w1:=by
  rw[JG p hw.low];unfold aJ new;rw[h.nh]
 refine⟨⟨by rw[h.nh];omega,λr hr hn=>h.others r hr λs hs=>?_,h.os',h.UT,h.Hv,by rw[h.ni];omega,λe hx=>?_⟩,e1,e2⟩
 .rcases zDA s N with au|xw
  .exact au
  .exact absurd ⟨s,hs,xw⟩ hn
 .rw[<-e1,<-e2];rcases he e hx with h0|⟨h1,r,r',h2,h3,h4⟩
  .exact .inl h0
  .exact .inr ⟨h1,r',⟨r,h2⟩,h3,λCn=>⟨r,h2,h4 Cn⟩⟩
end
def Base (P:Program):Frame:={fn:=P.funcs.size,tmps:=#[],todo:=[.extern "" #[],.code (.refuse "")],defers:=[⟨.nil,#[]⟩],mode:=.run,kind:=.normal}
def eB (P:Program) (v:Value):(Base P).finish v={fn:=P.funcs.size,tmps:=#[v],todo:=[.code (.refuse "")],defers:=[⟨.nil,#[]⟩],mode:=.run,kind:=.normal}:=rfl
def iF (P:un) (v:fu) (w:nq):∃o w1,step P (lone ((Base P).finish v) [] w)=.ended o w1:=⟨_,_,step_lone_ended (by rw[eB];rfl)⟩
def gp (P:un) (ch:List PanicEntry) (w:nq):∃o w1,step P (lone ((Base P).raise ch) [] w)=.ended o w1:=⟨_,_,step_lone_ended (by rfl)⟩
def fX {cs ds:List Frame} {w v:nq} (h:lone f cs w=lone g ds v):f=g/\cs=ds/\w=v:=by
 have h1:(lone f cs w).gs[0]! =(lone g ds v).gs[0]!:=by rw[h]
 have h2:(lone f cs w).world=(lone g ds v).world:=by rw[h]
 have h3:(jx f cs)=(jx g ds):=h1;simp only[Goroutine.mk.injEq]at h3;exact⟨h3.1,h3.2.1,h2⟩
def Alike (w w':nq):Prop:=∀r:Nat,w'.heap[r]?=w.heap[r]? \/((∃d,w.heap[r]?=some (Obj.deferred d))/\∃d,w'.heap[r]?=some (Obj.deferred d))
def Alike.refl (w:nq):Alike w w:=λ_=>.inl rfl
def Alike.trans {a b c:nq} (h:Alike a b) (k:Alike b c):Alike a c:=λr=>by
 rcases k r with k|⟨⟨d,k1⟩,k2⟩
 .rcases h r with h|⟨h1,d,h2⟩
  .exact .inl (k.trans h)
  .exact .inr ⟨h1,d,k.trans h2⟩
 .rcases h r with h|⟨h1,_⟩
  .exact .inr ⟨⟨d,h▸k1⟩,k2⟩
  .exact .inr ⟨h1,k2⟩
def vn (P:un) (n:Nat) (m m1:Machine) (h:runN P n m=.next m1):runN P (n+1) m=step P m1:=by
 rw[runN_add,h];simp only[runN];split<;>simp_all
section
variable {P:un} {S:Nat->Bool} {H:FuncId->Code->Code->Prop} {N:Nat} {p:Pi}
def FD (P:un) (S:Nat->Bool) (H:FuncId->Code->Code->Prop) (p:Pi) (g:Frame):Prop:=(∃d,DL p g.defers d)/\∀d x r s k,g.todo≠ .call d x r s::k
def FL.fd {l l':List Frame} (h:FL P S H p l l'):∀g∈l,FD P S H p g:=by
 induction h with
 |one h r=>intro g hg;obtain rfl:g=_:=by simpa using hg
           exact⟨⟨_,h.defers⟩,λd x r s k=>(qN h.todo d x r s k).1⟩
 |cons h t BB ih=>
  intro g hg;rcases zAQ.1 hg with rfl|hg
  .exact⟨⟨_,h.defers⟩,λd x r s k=>(qN h.todo d x r s k).1⟩
  .exact ih g hg
def zN (g:Frame) (ch:List PanicEntry):(g.raise ch).defers=g.defers/\(g.raise ch).todo=g.todo:=by
 unfold Frame.raise;split<;>exact⟨rfl,rfl⟩
def raise_mode (g:Frame) {ch:List PanicEntry} {e:PanicEntry} (h:ch.head?=some e):∃Ie,(g.raise ch).mode=.panicking Ie/\Ie.head?=some e:=by
 unfold Frame.raise;split
 .refine⟨_,rfl,?_⟩;cases ch with
  |nil=>cases h
  |cons x l=>exact h
 .exact⟨_,rfl,h⟩
def vq:∀(n:Nat) (h:Frame) (hs:List Frame) (v w2:nq) (ch:List PanicEntry) (e0:PanicEntry),h.mode=.panicking ch->ch.head?=some e0->FD P S H p h->(∀g∈hs,FD P S H p g)->
 WR P S (KS P S) N p v w2->∀(fr:Frame) (w1:nq),runN P n (lone h (hs++[Base P]) v)=.next (lone fr [Base P] w1)->
 ((∃x,fr.leaving P w1 (.returned x))\/∃Ie,fr.leaving P w1 (.panicked Ie))->∃Ie,fr.mode=.panicking Ie/\Ie.head?=some e0/\Alike v w1:=by
 intro n;induction n with
 |zero=>
  intro h hs v w2 ch e0 hm he hd LP hw fr w1 hr hl;simp only[runN,Stepped.next.injEq]at hr;obtain⟨rfl,_,rfl⟩:=fX hr;exact⟨ch,hm,he,Alike.refl _⟩
 |succ n ih=>
  intro h hs v w2 ch e0 hm he hd LP hw fr w1 hr hl;obtain⟨⟨d',hdl⟩,JH⟩:=hd
  have cu:stepG P true {frame:=h,callers:=hs++[Base P],status:=.running,dying:=none} v=Go.unwind P true h (hs++[Base P]) none v:=by
   unfold stepG;simp only[hm]
  generalize hdd:h.defers=ds at hdl;cases hdl with
  | @cons r r' l l' Vf hl'=>
    obtain⟨o,o',ho,LQ,hc⟩:=hw.blk r r' Vf
    have vr:(∃x,(Instr.takeDeferred r).run P v=.halt x v)->False:=by
     rintro⟨x,hx⟩
     have:step P (lone h (hs++[Base P]) v)=.ended _ _:=step_lone_ended (by
      rw[cu];unfold Go.unwind;simp only[hdd,Sem.runT_eq,hx,GStep.bare_after];rfl)
     simp only[runN,this]at hr;cases hr
    have Mx:(∀d,o≠ .deferred (some d))->False:=λhn=>vr (by
     simp only[Instr.takeDeferred,getObj,bind,Sem.bind,Sem.run,ho];cases o<;>first|exact⟨_,rfl⟩|(rename_i d;cases d<;>first|exact⟨_,rfl⟩|exact absurd rfl (hn _)))
    rcases hc with⟨_,c,c',el,fz,rfl,rfl,_⟩|⟨hN,tS⟩
    .exact(Mx λd h=>by cases h).elim
    .cases tS with
     |eS=>
      have bh:(Instr.takeDeferred r).run P v=.ok [] {v with heap:=v.heap.setIfInBounds r (.deferred none)}:=by
       simp[Instr.takeDeferred,getObj,setObj,bind,Sem.bind,Sem.run,ho,pure]
      have cD:step P (lone h (hs++[Base P]) v)=.next (lone {h with defers:=[]++l} (hs++[Base P]) {v with heap:=v.heap.setIfInBounds r (.deferred none)}):=step_lone_go (by
       rw[cu];unfold Go.unwind;simp only[hdd,Sem.runT_eq,bh,GStep.bare_after];rfl)
      simp only[runN,cD]at hr;obtain⟨Ie,k1,k2,k3⟩:=ih {h with defers:=[]++l} hs _ {w2 with heap:=w2.heap.setIfInBounds r' (.deferred none)} ch e0 hm he ⟨⟨_,hl'⟩,JH⟩ LP (hw.setObj Vf .eR hN) fr w1 hr hl;refine⟨Ie,k1,k2,Alike.trans (λs=>?_) k3⟩;by_cases hs:r=s
      .subst hs;have au:=(zAC.1 ho).1;exact .inr ⟨⟨_,ho⟩,none,by simp[au]⟩
      .exact .inl (by simp[hs])
     |_=>exact(Mx λd h=>by cases h).elim
  |nil=>
   have ZG:h.catches P=false:=pJ JH;cases hs with
   |nil=>
    exfalso
    have cD:step P (lone h ([]++[Base P]) v)=.next (lone ((Base P).raise ch) [] v):=step_lone_go (by
     rw[cu];unfold Go.unwind;simp only[hdd,hm,ZG,zAL,zBC];rfl)
    simp only[runN,cD]at hr;obtain⟨o,w5,he5⟩:=gp P ch v;cases n with
    |zero=>
     simp only[runN,Stepped.next.injEq]at hr;have:=(fX hr).2.1;simp at this
    |succ n=>simp only[runN,he5]at hr;cases hr
   |cons g2 ng=>
    have cD:step P (lone h (g2::ng++[Base P]) v)=.next (lone (g2.raise ch) (ng++[Base P]) v):=step_lone_go (by
     rw[cu];unfold Go.unwind;simp only[hdd,hm,ZG,zAL,zBC];rfl)
    simp only[runN,cD]at hr;obtain⟨ch3,m1,m2⟩:=raise_mode g2 he;obtain⟨Ye,ht2⟩:=LP g2 (by simp);have ZH:=zN g2 ch;exact ih (g2.raise ch) ng v w2 ch3 e0 m1 m2 ⟨by rw[ZH.1];exact Ye,by rw[ZH.2];exact ht2⟩ (λg hg=>LP g (by simp[hg])) hw fr w1 hr hl
end
def Bar (P:un) (lf:Frame) (vu:List Frame) (lw:nq) (R:fu->nq->Prop) (C:fu->nq->Prop):Prop:=
 ∀T,∃n fr w1,runN P n (lone lf (vu++[Base P]) {lw with tape:=T})=.next (lone fr [Base P] w1)/\
  ((∃v,fr.leaving P w1 (.returned v)/\R v w1)\/(∃e ch,fr.leaving P w1 (.panicked (e::ch))/\C e.v w1/\∀(S:Nat->Bool) (q:Pi) v',S (P.funcs.size+P.globals.size)=false->¬VR S q e.v v'))
def vv (P:un) (S:Nat->Bool) (N:Nat) (p:Pi) (R:fu->nq->Prop) (kn own:Nat->Prop) (v':fu) (w':nq):Prop:=
 ∃q v w1,R v w1/\VR S q v v'/\WR P S (KS P S) N q w1 w'/\Le p q/\kn=lp q/\own=cJ N q
def iG (m:Nat->Nat) (d:Nat):Nat->Nat
 |0=>d
 |k+1=>iG m d k+m k
def sg (m:Nat->Nat) (d:Nat) {k j:Nat} (h:k<=j):iG m d k<=iG m d j:=by
 induction h with
 |refl=>exact zAA _
 |step _ ih=>simp only[iG];omega
open Classical in
def splice [Inhabited α] (m:Nat->Nat) (a:Nat->Nat->α) (d:Nat):∃T:Nat->α,∀k j,j<m k->T (iG m d k+j)=a k j:=by
 refine⟨λi=>if h:∃k,iG m d k<=i/\i<iG m d (k+1)then a h.choose (i-iG m d h.choose)else default,λk j hj=>?_⟩;have h:∃k',iG m d k'<=iG m d k+j/\iG m d k+j<iG m d (k'+1):=⟨k,by omega,by simp only[iG];omega⟩
 simp only[dif_pos h];obtain⟨c,hc,iB⟩:∃c,(iG m d c<=iG m d k+j/\iG m d k+j<iG m d (c+1))/\h.choose=c:=⟨h.choose,h.choose_spec,rfl⟩
 rw[iB]
 have e:c=k:=by
  rcases Nat.lt_trichotomy c k with au|heq|BE
  .have:=sg m d (show c+1<=k by omega);omega
  .exact heq
  .have:=sg m d (show k+1<=c by omega);simp only[iG]at this;omega
 subst e;congr 1;omega
def Qj (H:FuncId->Code->Code->Prop) (lf f:Frame):Prop:=lf.mode=.run/\f.mode=.run/\∃c c' k k',lf.todo=.code c::k/\f.todo=.code c'::k'/\H f.fn c c'
def My (H:FuncId->Code->Code->Prop) (f:Frame):Prop:=f.mode=.run/\∃c c' k',f.todo=.code c'::k'/\H f.fn c c'
structure vw (P:un) (S:Nat->Bool) (H:FuncId->Code->Code->Prop) (N:Nat) (HA:m6) (HP:eG) (C:fu->nq->Prop)where
 a0:Question->Nat
 m1:Nat
 ans:fu->nq->Nat->Question->Nat
 ln:Nat
 q3:Pi->Nat->Frame->nq->fu->nq->Pi
 val:Frame->fu
 only:∀fn c c' c0,H fn c c'->CR P S (H fn) c0 c'->H fn c0 c'\/∃w,c0=.refuse w
 marked:S (P.funcs.size+P.globals.size)=false
 bare:∀o,ia S o=false
 Fm:∀v w w',Alike w w'->C v w'->C v w
 check:∀p lf f v cs,mZ P S H p lf f->Qj H lf f->(∀q,v.tape v.drawn q=a0 q)->∃n g1 v1 e,runN P n (lone lf cs v)=.next (lone g1 cs v1)/\g1.mode=.panicking [e]/\e.v=val lf/\
  FD P S H p g1/\v1.heap=v.heap
 ha:∀p lf f v w2,mZ P S H p lf f->Qj H lf f->WR P S (KS P S) N p v w2->C (val lf) v->HA (lp p) (cJ N p) f w2
 pass:∀p lf f v w2 lc cs u' w3 fH bQ,mZ P S H p lf f->Qj H lf f->WR P S (KS P S) N p v w2->HP (lp p) (cJ N p) f w2 u' w3 fH bQ->(∀i,i<m1->∀q,v.tape (v.drawn+i) q=ans u' w3 i q)->
  ∃n u v1,1<=n/\runN P n (lone lf (lc::cs) v)=.next (lone (lc.finish u) cs v1)/\VR S (q3 p v.heap.size f w2 u' w3) u u'/\WR P S (KS P S) N (q3 p v.heap.size f w2 u' w3) v1 w3/\
   Le p (q3 p v.heap.size f w2 u' w3)/\fH=lp (q3 p v.heap.size f w2 u' w3)/\bQ=cJ N (q3 p v.heap.size f w2 u' w3)/\v1.tape=v.tape/\v1.drawn=v.drawn+m1/\v1.heap.size=v.heap.size+ln
structure Nd where
 p:Pi
 L:Nat
 f:Frame
 top:List Frame
 w:nq
section
variable (Q:un) (S:Nat->Bool) (H:FuncId->Code->Code->Prop) (N:Nat) (main:Bool) (base:List Frame) (Fin:qO) (HA:m6) (HP:eG)
def Nd.ct (x:Nd):Prop:=CT Q main base Fin HA HP (lp x.p) (cJ N x.p) x.f x.top x.w
def Nd.step (x:Nd) (w2:nq):GStep:=stepG Q main (jx x.f (x.top++base)) w2
def Nd.bad (x:Nd) (w2:nq):Prop:=
 Env (lp x.p) x.w w2/\
 ¬((∃w3 es f2 qP,x.step Q main base w2=.go (jx f2 (qP++base)) w3 es/\Fair (lp x.p) (cJ N x.p) w2 w3 es/\CT Q main base Fin HA HP (aJ (lp x.p) w2 w3) (aJ (cJ N x.p) w2 w3) f2 qP w3)\/
  (∃w3 es v b bs,base=b::bs/\x.step Q main base w2=.go (jx (b.finish v) bs) w3 es/\Fair (lp x.p) (cJ N x.p) w2 w3 es/\Fin (aJ (lp x.p) w2 w3) (aJ (cJ N x.p) w2 w3) v w3)\/
  (∃w3 es v,base=[]/\x.step Q main base w2=.ended (.done v) w3 es/\Fair (lp x.p) (cJ N x.p) w2 w3 es/\Fin (aJ (lp x.p) w2 w3) (aJ (cJ N x.p) w2 w3) v w3)\/
  (HA (lp x.p) (cJ N x.p) x.f w2/\∃c rest,x.top=c::rest/\∀v w3 fH bQ,HP (lp x.p) (cJ N x.p) x.f w2 v w3 fH bQ->CT Q main base Fin HA HP fH bQ (c.finish v) rest w3))
def Nd.Vg (x:Nd) (h:¬x.ct Q N main base Fin HA HP):∃w2,x.bad Q N main base Fin HA HP w2:=by
 refine zBF λhn=>h (CT.mk λw2 he=>?_);exact zBF λhx=>hn ⟨w2,he,hx⟩
def Nd.out (x:Nd) (w2:nq) (o:fu×nq):Prop:=
 ∃c rest fH bQ,x.top=c::rest/\HP (lp x.p) (cJ N x.p) x.f w2 o.1 o.2 fH bQ/\¬CT Q main base Fin HA HP fH bQ (c.finish o.1) rest o.2
open Classical in
def Nd.pick (x:Nd):nq:=if h:∃w2,x.bad Q N main base Fin HA HP w2 then h.choose else x.w
def Nd.yr (x:Nd) (h:¬x.ct Q N main base Fin HA HP):x.bad Q N main base Fin HA HP (x.pick Q N main base Fin HA HP):=by
 have:=x.Vg Q N main base Fin HA HP h;unfold Nd.pick;rw[dif_pos this];exact this.choose_spec
open Classical in
def Nd.gq (x:Nd):fu×nq:=
 if h:∃o,x.out Q N main base Fin HA HP (x.pick Q N main base Fin HA HP) o then h.choose else(undef,x.w)
def Nd.zO (x:Nd) (h:∃o,x.out Q N main base Fin HA HP (x.pick Q N main base Fin HA HP) o):x.out Q N main base Fin HA HP (x.pick Q N main base Fin HA HP) (x.gq Q N main base Fin HA HP):=by
 unfold Nd.gq;rw[dif_pos h];exact h.choose_spec
end
section
variable {P:un} (Q:un) {S:Nat->Bool} {H:FuncId->Code->Code->Prop} {N:Nat} (main:Bool) (base:List Frame) (Fin:qO) {HA:m6} {HP:eG} {C:fu->nq->Prop} (hl:vw P S H N HA HP C)
open Classical in
def Nd.nx (x:Nd):Nd:=
 if My H x.f then
  match x.top with
  |c::rest=>⟨hl.q3 x.p x.L x.f (x.pick Q N main base Fin HA HP) (x.gq Q N main base Fin HA HP).1 (x.gq Q N main base Fin HA HP).2,x.L+hl.ln,c.finish (x.gq Q N main base Fin HA HP).1,rest,(x.gq Q N main base Fin HA HP).2⟩
  | []=>x
 else match x.step Q main base (x.pick Q N main base Fin HA HP)with
 |.go g w3 _=>⟨ext x.p x.L (x.pick Q N main base Fin HA HP).heap.size (w3.heap.size-(x.pick Q N main base Fin HA HP).heap.size),x.L+(w3.heap.size-(x.pick Q N main base Fin HA HP).heap.size),
    g.frame,g.callers.take (g.callers.length-base.length),w3⟩
 |_=>x
def Nd.path (x:Nd):Nat->Nd
 |0=>x
 |k+1=>(Nd.path x k).nx Q main base Fin hl
open Classical in
def Nd.cnt (x:Nd):Nat:=
 if My H x.f then hl.m1 else(gw (x.step Q main base (x.pick Q N main base Fin HA HP))).drawn-(x.pick Q N main base Fin HA HP).drawn
open Classical in
def Nd.piece (x:Nd) (i:Nat):Question->Nat:=
 if My H x.f then hl.ans (x.gq Q N main base Fin HA HP).1 (x.gq Q N main base Fin HA HP).2 i else(x.pick Q N main base Fin HA HP).tape ((x.pick Q N main base Fin HA HP).drawn+i)
end
instance : Inhabited (Question -> Nat) := ⟨λ_ => 0⟩
def Ends (P:un) (fr:Frame) (w1:nq):Prop:=(∃v,fr.leaving P w1 (.returned v))\/∃ch,fr.leaving P w1 (.panicked ch)
def Ends.after {P:un} (h:Ends P fr w1):∃b,step P (lone fr [Base P] w1)=.next (lone b [] w1)/\∃o w2,step P (lone b [] w1)=.ended o w2:=by
 rcases h with⟨v,h⟩|⟨ch,h⟩
 .exact⟨_,step_leave_returned h,iF P v w1⟩
 .exact⟨_,step_leave_panicked h,gp P ch w1⟩
def before {P:un} {m0:Machine} (h:runN P n m0=.next (lone fr [Base P] w1)) (he:Ends P fr w1) {ν:Nat} {gs:List Frame} {v:nq}
 (hv:runN P ν m0=.next (lone g (gs++[Base P]) v)):ν<=n/\runN P (n-ν) (lone g (gs++[Base P]) v)=.next (lone fr [Base P] w1):=by
 obtain⟨b,h1,o,w2,h2⟩:=he.after
 have hle:ν<=n:=by
  rcases zDA n ν with au|xw
  .exfalso;obtain⟨j,rfl⟩:∃j,ν=(n+1)+j:=⟨ν-(n+1),by omega⟩
   rw[runN_add,vn P n _ _ h,h1]at hv;cases j with
   |zero=>
    simp only[runN,Stepped.next.injEq]at hv;have:=(fX hv).2.1;simp at this
   |succ j=>simp only[runN,h2]at hv;cases hv
  .exact xw
 refine⟨hle,?_⟩;have:n=ν+(n-ν):=by omega
 rw[this,runN_add,hv]at h;exact h
def zP {P:un} {b:Frame} {v1:nq} (h:runN P r σ=.next (lone fr [Base P] w1)) (hs:step P σ=.next (lone b [] v1)) (hb:∃o w2,step P (lone b [] v1)=.ended o w2):r=0/\σ=lone fr [Base P] w1:=by
 obtain⟨o,w2,hb⟩:=hb;cases r with
 |zero=>simp only[runN,Stepped.next.injEq]at h;exact⟨rfl,h⟩
 |succ r=>
  exfalso;simp only[runN,hs]at h;cases r with
  |zero=>
   simp only[runN,Stepped.next.injEq]at h;have:=(fX h).2.1;simp at this
  |succ r=>simp only[runN,hb]at h;cases h
def zQ {P:un} {o:Outcome} (h:runN P r σ=.next (lone fr [Base P] w1)) (he:Ends P fr w1) (hs:step P σ=.ended o w2):False:=by
 cases r with
 |zero=>
  simp only[runN,Stepped.next.injEq]at h;obtain⟨b,h1,_⟩:=he.after;rw[h,h1]at hs;cases hs
 |succ r=>simp only[runN,hs]at h;cases h
def FL.above {P:un} {S:Nat->Bool} {H:FuncId->Code->Code->Prop} {p:Pi} (h:FL P S H p (f::t) (f'::t')) {c c':Code} (hh:H f'.fn c c'):∃g g' r r',t=g::r/\t'=g'::r'/\FL P S H p (g::r) (g'::r')/\(S JK=true->lZ g):=by
 cases h with
 |one h r=>exact absurd (h.fn▸hh) (r.2 c c')
 |cons h k BB=>
  cases k with
  |one h r=>exact⟨_,_,_,_,rfl,rfl,.one h r,λhj=>BB hj _ rfl⟩
  |cons h t Mt=>exact⟨_,_,_,_,rfl,rfl,.cons h t Mt,λhj=>BB hj _ rfl⟩
section
variable {P:un} {F:Array Func} {S:Nat->Bool} {H:FuncId->Code->Code->Prop} {N:Nat} {HA:m6} {HP:eG} {C:fu->nq->Prop}
def Mz {p:Pi} (hl:vw P S H N HA HP C) (hf:FL P S H p (f::t) (f'::t')) (hh:My H f'):Qj H f f'\/∃w k,f.todo=.code (.refuse w)::k/\f.mode=.run:=by
 obtain⟨hm,c,c',k',ht,hH⟩:=hh;have kX:=hf.head.mode;rw[hm]at kX;have bh:f.mode=.run:=by generalize f.mode=o at kX;cases kX;rfl
 have JH:=hf.head.todo;rw[ht]at JH
 have key:∀x,f.todo=x->TL P S (H f.fn) p x (.code c'::k')->Qj H f f'\/∃w k,f.todo=.code (.refuse w)::k/\f.mode=.run:=by
  intro x hx JH;cases JH with
  |cons hi JH=>
   cases hi with
   | @code c0 _ Tj=>
     rcases hl.only _ c c' c0 hH (hf.head.fn▸Tj)with h|⟨w,h⟩
     .exact .inl ⟨bh,hm,c0,c',_,k',hx,ht,h⟩
     .rw[h]at hx;exact .inr ⟨w,_,hx,bh⟩
 exact key _ rfl JH
def yt {p:Pi} (hc:Closed P F S H) (hg:jJ P S p) {lf:Frame} {vu top:List Frame} {w:nq} (hw:WR P S (KS P S) N p lw w)
 (hf:FL P S H p (lf::vu) (f::top)) {R:fu->nq->Prop} (hl:vw P S H N HA HP C) (JI:Bar P lf vu lw R C) (main:Bool) (base:List Frame) (hb:Vc P S main base):
 CT (ai P F) main base (vv P S N p R) HA HP (lp p) (cJ N p) f top w:=by
 refine zBF λhct=>?_;let Fin:=vv P S N p R
 let x0:Nd:=⟨p,lw.heap.size,f,top,w⟩
 have BA:=hct;let X:=λk=>Nd.path (ai P F) main base Fin hl x0 k
 let pk:=λk=>(X k).pick (ai P F) N main base Fin HA HP
 let m:=λk=>(X k).cnt (ai P F) main base Fin hl
 let D:=λk=>iG m lw.drawn k
 let start:=λT:Nat->Question->Nat=>lone lf (vu++[Base P]) {lw with tape:=T}
 have inv:∀k (T:Nat->Question->Nat),(∀j,j<k->∀i,i<m j->T (D j+i)=(X j).piece (ai P F) main base Fin hl i)->∃ν g gs v,k<=ν/\runN P ν (start T)=.next (lone g (gs++[Base P]) v)/\WR P S (KS P S) N (X k).p v (X k).w/\
  FL P S H (X k).p (g::gs) ((X k).f::(X k).top)/\jJ P S (X k).p/\v.tape=T/\v.drawn=D k/\v.heap.size=(X k).L/\(¬(X k).ct (ai P F) N main base Fin HA HP)/\Le p (X k).p:=by
  intro k;induction k with
  |zero=>intro T _;exact⟨0,lf,vu,{lw with tape:=T},zAA _,rfl,hw.tape T lw.drawn,hf,hg,rfl,rfl,rfl,BA,Le.refl p⟩
  |succ k ih=>
   intro T hT;obtain⟨ν,g,gs,v,e0,e1,e2,e3,e4,e5,e6,e7,e8,e9⟩:=ih T λj hj i hi=>hT j (by omega) i hi;obtain⟨zR,vr⟩:=(X k).yr (ai P F) N main base Fin HA HP e8;have zS:=e2.env zR;obtain⟨n,fr,w1,c1,c2⟩:=JI T
   have pq:Ends P fr w1:=by
    rcases c2 with⟨rv,h,_⟩|⟨e,ch,h,_⟩
    .exact .inl ⟨rv,h⟩
    .exact .inr ⟨_,h⟩
   obtain⟨hle,sV⟩:=before c1 pq e1;by_cases m7:My H (X k).f
   ·
    rcases Mz hl e3 m7 with hh|⟨ws,kk,hrf,hrm⟩
    .have xC:m k=hl.m1:=by show Nd.cnt _ _ _ _ hl (X k)=_;unfold Nd.cnt;rw[zAE m7]
     obtain⟨lc,fc,Cp,rest,hgs,t6,Fq,EJ⟩:∃lc fc Cp rest,gs=lc::Cp/\(X k).top=fc::rest/\FL P S H (X k).p (lc::Cp) (fc::rest)/\(S JK=true->lZ lc):=by
      obtain⟨_,_,c,c',_,_,_,_,hH⟩:=hh;obtain⟨lc,fc,lr,r,h1,h2,h3⟩:=e3.above hH;exact⟨lc,fc,lr,r,h1,h2,h3⟩
     have vx:HA (lp (X k).p) (cJ N (X k).p) (X k).f (pk k):=by
      let T2:Nat->Question->Nat:=λi=>if i<D k then T i else hl.a0
      have hT2:∀j,j<k->∀i,i<m j->T2 (D j+i)=(X j).piece (ai P F) main base Fin hl i:=λj hj i hi=>by
       have h1:=sg m lw.drawn (show j+1<=k by omega);simp only[iG]at h1;have:D j+i<D k:=by show iG m lw.drawn j+i<iG m lw.drawn k;omega
       show(if D j+i<D k then T (D j+i)else hl.a0)=_;rw[zAE this];exact hT j (by omega) i hi
      obtain⟨ν2,g2,Tk,v2,_,f1,f2,f3,_,f5,f6,_,_,_⟩:=ih T2 hT2;have hh2:=Mz hl f3 m7;obtain⟨n2,fr2,w3,d1,d2⟩:=JI T2
      have zT:Ends P fr2 w3:=by
       rcases d2 with⟨rv,h,_⟩|⟨e,ch,h,_⟩
       .exact .inl ⟨rv,h⟩
       .exact .inr ⟨_,h⟩
      obtain⟨_,Vh⟩:=before d1 zT f1;rcases hh2 with hh2|⟨ws,kk,hrf,hrm⟩
      .obtain⟨nn,g3,v3,e,p1,p2,p3,p4,p5⟩:=hl.check (X k).p g2 (X k).f v2 (Tk++[Base P]) f3.head hh2 (λq=>by
        rw[f5,f6];show(if D k<D k then T (D k)else hl.a0) q=hl.a0 q;rw[zAG (zEV _)])
       have hgo:runN P (ν2+nn) (start T2)=.next (lone g3 (Tk++[Base P]) v3):=by rw[runN_add,f1];exact p1
       obtain⟨_,Vi⟩:=before d1 zT hgo;have hw3:WR P S (KS P S) N (X k).p v3 (X k).w:=⟨f2.inj,λr r' h=>by rw[p5];exact f2.blk r r' h,by rw[p5];exact f2.low,f2.fix,by rw[p5];exact f2.gY,f2.kZ,f2.str,f2.xv⟩
       have hfd:∀x∈Tk,FD P S H (X k).p x:=λx hx=>f3.fd x (by simp[hx]);obtain⟨Ie,q1,q2,q3⟩:=vq _ g3 Tk v3 (X k).w [e] e p2 rfl p4 hfd hw3 fr2 w3 Vi zT;rcases d2 with⟨rv,h,_⟩|⟨e',Yf,h,hC,_⟩
       .have:=h.1;rw[q1]at this;cases this
       .have:=h.1;rw[q1]at this;simp only[FrameMode.panicking.injEq]at this;subst this;simp only[List.head?_cons,zAB]at q2;subst q2;rw[p3]at hC;have Tl:Alike v2 w3:=λr=>by have:=q3 r;rw[p5]at this;exact this
        exact hl.ha (X k).p g2 (X k).f v2 (pk k) f3.head hh2 (f2.env zR) (hl.Fm _ _ _ Tl hC)
      .exact(zQ Vh zT (step_lone_ended (o:=.unsupported _ (g2.pos P)) (w':=v2) (by
        unfold stepG;simp only[hrm];unfold stepG.exec;simp only[hrf];rfl))).elim
     have JJ:∃o,(X k).out (ai P F) N main base Fin HA HP (pk k) o:=by
      refine zBF λje=>vr (.inr (.inr (.inr ⟨vx,fc,rest,t6,λv w3 fH bQ hp=>?_⟩)));exact zBF λhx=>je ⟨(v,w3),fc,rest,fH,bQ,t6,hp,hx⟩
     obtain⟨fc2,ZI,fH,bQ,Tm,hHP,Vj⟩:=(X k).zO (ai P F) N main base Fin HA HP JJ;rw[t6]at Tm;obtain⟨rfl,rfl⟩:fc=fc2/\rest=ZI:=by simpa using Tm
     obtain⟨nn,u,v1,p0,p1,p2,p4,p5,p6,p7,p8,p9,p10⟩:=hl.pass (X k).p g (X k).f v (pk k) lc (Cp++[Base P]) _ _ fH bQ e3.head hh zS hHP (λi hi q=>by
      have:=hT k (by omega) i (by rw[xC];exact hi);rw[e5,e6,this];unfold Nd.piece;rw[zAE m7])
     have EP:X (k+1)=⟨hl.q3 (X k).p (X k).L (X k).f (pk k) ((X k).gq (ai P F) N main base Fin HA HP).1 ((X k).gq (ai P F) N main base Fin HA HP).2,(X k).L+hl.ln,fc.finish ((X k).gq (ai P F) N main base Fin HA HP).1,rest,((X k).gq (ai P F) N main base Fin HA HP).2⟩:=by
      show(X k).nx (ai P F) main base Fin hl=_;unfold Nd.nx;rw[zAE m7,t6]
     rw[EP];rw[e7]at p2 p4 p5 p6 p7;refine⟨ν+nn,lc.finish u,Cp,v1,by omega,by rw[runN_add,e1,hgs];exact p1,p4,(Fq.mono p5).top ((Fq.mono p5).head.finish p2 λhj=>(EJ hj).fits _) (eF _ _),e4.mono p5,p8.trans e5,?_,by rw[p10,e7],?_,e9.trans p5⟩
     .rw[p9,e6];show D k+hl.m1=iG m lw.drawn k+m k;rw[xC]
     .unfold Nd.ct;rw[<-p6,<-p7];exact Vj
    .exact(zQ sV pq (step_lone_ended (o:=.unsupported _ (g.pos P)) (w':=v) (by
      unfold stepG;simp only[hrm];unfold stepG.exec;simp only[hrf];rfl))).elim
   ·
    have xC:m k=(gw ((X k).step (ai P F) main base (pk k))).drawn-(pk k).drawn:=by show Nd.cnt _ _ _ _ hl (X k)=_;unfold Nd.cnt;rw[zAG m7]
    have Fr:mP (m k) v (pk k):=λj hj q=>by
     have:=hT k (by omega) j hj;rw[e5,e6,this];unfold Nd.piece;rw[zAG m7]
    have hd:(gw (stepG (ai P F) main {frame:=(X k).f,callers:=(X k).top++base,status:=.running,dying:=none} (pk k))).drawn<=(pk k).drawn+m k:=by
     rw[xC];show(gw ((X k).step (ai P F) main base (pk k))).drawn<=(pk k).drawn+((gw ((X k).step (ai P F) main base (pk k))).drawn-(pk k).drawn)
     omega
    have Vk:=dW.step (b:=Base P) (bs:=[]) (aU:=base) hc zS e4 e3 (λc c' k1 k1' hm h1 h2 hH=>m7 ⟨by
     have kX:=e3.head.mode;rw[hm]at kX;generalize(X k).f.mode=o at kX;cases kX;rfl,c,c',k1',h2,e3.head.fn▸hH⟩) (λ⟨_,o,_,_,_,_,_,_,h5,_⟩=>by rw[hl.bare o.op]at h5;cases h5) true main hb Fr hd
    rcases Vk with⟨o,w3,es,hs⟩|⟨q,ch,Yf,w3,es,Ib,hs⟩|⟨c,nn,v1,w3,es,dJ,hm,ZJ,lq⟩
    .exact(zQ sV pq (step_lone_ended (o:=o) (w':=w3) (by rw[hs];rfl))).elim
    .exfalso;have cu:=step_lone_go (by rw[hs];rfl);obtain⟨_,hσ⟩:=zP sV cu (gp P ch w3);rw[hσ]at cu;rcases c2 with⟨rv,h,_⟩|⟨e,Ie,h,_,Yi⟩
     .rw[step_leave_returned h]at cu;simp only[Stepped.next.injEq]at cu;have q1:=(fX cu).1;rw[eB]at q1;have:=zBE (λf:Frame=>f.mode) q1;simp[Base,Frame.raise]at this
     .rw[step_leave_panicked h]at cu;simp only[Stepped.next.injEq]at cu;have q1:=zBE (λf:Frame=>f.mode) (fX cu).1;simp only[Base,Frame.raise,FrameMode.panicking.injEq]at q1;rw[<-q1]at Ib;cases Ib with
      |cons b1 b2 hv _=>exact Yi S q _ hl.marked hv
    .obtain⟨vz,uz,uA⟩:=cY.fair zS hm ZJ;rcases lq with⟨f2,Qk,t2,Ql,Fq,hs,xe⟩|⟨ZK,Fs,hv,hs,xe⟩
     .have cu:=step_lone_go (by rw[hs];rfl);have oT:=vn P ν _ _ e1;rw[cu]at oT;have ng:(X k).step (ai P F) main base (pk k)=.go (jx Qk (Ql++base)) w3 dJ:=xe
      have EP:X (k+1)=⟨ext (X k).p (X k).L (pk k).heap.size c,(X k).L+c,Qk,Ql,w3⟩:=by
       show(X k).nx (ai P F) main base Fin hl=_;unfold Nd.nx;rw[zAG m7];have If:(X k).step (ai P F) main base ((X k).pick (ai P F) N main base Fin HA HP)=.go (jx Qk (Ql++base)) w3 dJ:=xe;rw[If]
       have cB:w3.heap.size-((X k).pick (ai P F) N main base Fin HA HP).heap.size=c:=by
        have h6:=hm.nh;show w3.heap.size-(pk k).heap.size=c;rw[h6,zDG]
       simp only[cB];congr 1;rw[zAV,zFN];exact List.take_left
      rw[EP];have hrel:=hm.rel;rw[e7]at hrel Fq uz uA;have JL:=fS (X k).p (X k).L (pk k).heap.size c;refine⟨ν+1,f2,t2,v1,by omega,oT,hrel,Fq,e4.mono JL,hm.tape.trans e5,?_,by rw[hm.size,e7],?_,e9.trans JL⟩
      .rw[hm.drawn,e6]
       have:m k=nn:=by
        rw[xC,ng];have h5:=hm.ni;show w3.drawn-(pk k).drawn=nn;rw[h5,zDG]
       show D k+nn=iG m lw.drawn k+m k;rw[this]
      .intro Fu;refine vr (.inl ⟨w3,dJ,Qk,Ql,ng,vz,?_⟩);unfold Nd.ct at Fu;rw[uz,uA]at Fu;exact Fu
     .exfalso;have cu:=step_lone_go (by rw[hs];rfl);obtain⟨_,hσ⟩:=zP sV cu (iF P ZK v1);rw[hσ]at cu;rcases c2 with⟨rv,h,hR⟩|⟨e,Ie,h,_⟩
      .rw[step_leave_returned h]at cu;simp only[Stepped.next.injEq]at cu;obtain⟨q1,_,q3⟩:=fX cu;rw[eB,eB]at q1
       have BF:rv=ZK:=by
        have:=zBE (λf:Frame=>f.tmps) q1;simpa using this
       subst BF;subst q3;have pK:Fin (aJ (lp (X k).p) (pk k) w3) (aJ (cJ N (X k).p) (pk k) w3) Fs w3:=⟨_,rv,w1,hR,hv,hm.rel,e9.trans (fS _ _ _ _),uz.symm,uA.symm⟩
       rcases xe with⟨b',zL,ls,xe⟩|⟨ls,xe⟩
       .exact vr (.inr (.inl ⟨w3,dJ,Fs,b',zL,ls,xe,vz,pK⟩))
       .exact vr (.inr (.inr (.inl ⟨w3,dJ,Fs,ls,xe,vz,pK⟩)))
      .rw[step_leave_panicked h]at cu;simp only[Stepped.next.injEq]at cu;have q1:=(fX cu).1;rw[eB]at q1;have:=zBE (λf:Frame=>f.mode) q1;simp[Base,Frame.raise]at this
 obtain⟨T,hT⟩:=splice m (λk j=>(X k).piece (ai P F) main base Fin hl j) lw.drawn;obtain⟨n,fr,w1,c1,c2⟩:=JI T
 have pq:Ends P fr w1:=by
  rcases c2 with⟨rv,h,_⟩|⟨e,ch,h,_⟩
  .exact .inl ⟨rv,h⟩
  .exact .inr ⟨_,h⟩
 obtain⟨ν,g,gs,v,e0,e1,_⟩:=inv (n+1) T λj _ i hi=>hT j i hi;obtain⟨hle,_⟩:=before c1 pq e1;omega
end
end Go.aD
end
