/- A part. Conditions: none. -/
import Derived.Test.YtddlcmejelobdaaGreatDoorT01
set_option linter.all false
namespace Go.aq
variable {a:Code} {c i id m n r r':Nat} {cD tmps xs:Array Value} {dm t t':List Frame} {es:Array Event} {f f' fr g:Frame} {fR lw w1 w2:World} {k l l':List Item} {kn own:Nat->Prop} {o:Oper} {ops:Array Oper} {rest:List Nat} {s':GStep} {v v':Value} {α β:Type} {σ:Machine}
section
variable {P:Program} {F:Array Func} {S:Nat->Bool} {K:Kz} {N:Nat} {p:Pi}
theorem SR.mono {Q Q':Pi->α->β->Prop} {s:Sem α} {s':Sem β} (g:∀q a b,Le p q->Q q a b->Q' q a b) (h:SR P F S K N Q s s' p):SR P F S K N Q' s s' p:=by
 have:=h.bind (f:=Pure.pure) (f':=Pure.pure) fun q a b hq x=>SR.pure (g q a b hq x);simpa using this
theorem SR.Dh (Db:p.l=true->S 999999=false) {r r':Operand->Value} (h:qs P S p r r') (o:Oper) {t:TypeId} {x:Operand} {lo hi mx:Option Operand} (ho:o.op=.slice t x lo hi mx) (bG:∀y∈o.op.operands,gJ P S y=true) (hE:p.l=true->oU (r x)=true):
 SR P F S K N (fun q n n'=>QX S K q n n'\/(p.l=true/\mx=none/\∃v v',n=.value v/\n'=.value v'/\KY q (r x) v v')) (Go.execOp r o) (Go.execOp r' o) p:=by
 unfold Go.execOp;obtain⟨dst,op,ty,pos,af,gd⟩:=o;simp only at ho bG⊢;subst ho;simp only
 have key:SR P F S K N (fun q v v'=>VR S q v v'\/(p.l=true/\mx.map r=none/\KY q (r x) v v')) (Instr.sliceAt t (r x) (lo.map r) (hi.map r) (mx.map r)) (Instr.sliceAt t (r' x) (lo.map r') (hi.map r') (mx.map r')) p:=by
  have hx:=h.at (bG x (by simp[Op.operands]))
  have h1:OV S p (lo.map r) (lo.map r'):=h.opt fun y hy=>bG y (by simp[Op.operands,hy]);have h2:OV S p (hi.map r) (hi.map r'):=h.opt fun y hy=>bG y (by simp[Op.operands,hy]);have h3:OV S p (mx.map r) (mx.map r'):=h.opt fun y hy=>bG y (by simp[Op.operands,hy]);unfold Instr.sliceAt;refine SR.ci fun u hu=>?_;cases u with
  |array n e=>
   refine(SR.sureAddr hx).bind fun q a a' hq ha=>?_;refine(SR.sliceBounds false n n (h1.mono hq) (h2.mono hq) (h3.mono hq)).av fun q2 b cw=>?_;obtain⟨l,hh,m⟩:=b;simp only;refine(SR.sizeOf e).av fun q3 s gv=>?_;have ha:=(ha.mono cw).mono gv;refine SR.ok fun ho=>?_;have gT:=fun r=>Yn (fun x=>Db (((hq.trans cw).trans gv).l.symm.trans x)) ho r;split
   .exact SR.pure (.inl (ha.sl (gT _) _ _))
   .exact SR.pure (.inl ((ha.add _).sl (gT _) _ _))
  |_=>exact SR.slice Db t hx (fun hl b l c e=>uf (hE hl) e) h1 h2 h3
 exact key.bind fun q v v' hq hv=>SR.pure (hv.elim (fun a=>.inl (.value a)) fun a=>.inr ⟨a.1,by cases mx<;>simp_all,v,v',rfl,rfl,a.2.2⟩)
theorem SR.execOp (Lg:p.l=true->S JK=false) (hz:bc P) (hc:aI P) (hb:oT P F S) {r r':Operand->Value} (h:qs P S p r r') (o:Oper) (ho:nE P S o.op=true) (hs:p.l=true->NJ o.op=true) (hE:p.l=true->kg r o.op=true) (hk:S JK=true->vI P r o.op):SR P F S K N (QX S K) (Go.execOp r o) (Go.execOp r' o) p:=by
 unfold Go.execOp;obtain⟨dst,op,ty,pos,af,gd⟩:=o;simp only at ho⊢;unfold nE at ho;simp only[Bool.and_eq_true]at ho;obtain⟨ru,bJ⟩:=ho
 have bG:∀x∈op.operands,gJ P S x=true:=by
  intro x hx;obtain⟨i,hi,he⟩:=Array.mem_iff_getElem.1 hx;have:=Array.all_eq_true.1 ru i hi;rw[he]at this;exact this
 cases op<;>try(simp only[Bool.false_eq_true]at bJ)
 case move x=>exact SR.pure (.value (h.at (bG x (by simp[Op.operands]))))
 case assign x=>exact SR.pure (.value (h.at (bG x (by simp[Op.operands]))))
 case pick c a b=>
  refine(SR.asBool (h.at (bG c (by simp[Op.operands])))).av fun q t hq=>?_;cases t with
  |true=>exact SR.pure (.value ((h.at (bG a (by simp[Op.operands]))).mono hq))
  |false=>exact SR.pure (.value ((h.at (bG b (by simp[Op.operands]))).mono hq))
 case alloc e=>exact SR.cH (SR.alloc hz e)
 case box e x=>exact SR.cH (SR.box e (h.at (bG x (by simp[Op.operands]))))
 case build t ps=>
  refine SR.cH (SR.build hz t ?_);rw[Array.toList_map,Array.toList_map];refine PL.map _ r r' fun x hx=>h.at (bG x.2 ?_)
  simp only[Op.operands,List.mem_toArray,List.mem_map];exact⟨x,hx,rfl⟩
 case buildSlice t n ps=>
  refine SR.cH (SR.buildSlice hz t n ?_);rw[Array.toList_map,Array.toList_map];refine PL.map _ r r' fun x hx=>h.at (bG x.2 ?_)
  simp only[Op.operands,List.mem_toArray,List.mem_map];exact⟨x,hx,rfl⟩
 case load t a=>exact SR.cH (SR.loadAt t (h.at (bG a (by simp[Op.operands]))))
 case store t a x=>exact SR.Hh (SR.storeAt t (h.at (bG a (by simp[Op.operands]))) (h.at (bG x (by simp[Op.operands]))))
 case nilCheck x=>
  have hx:=h.at (bG x (by simp[Op.operands]))
  dsimp only;revert hx;generalize r x=v;generalize r' x=v';intro hx;have xz:=hx;cases hx with
  |tu=>exact SR.nilDeref
  |nilIface=>exact SR.nilDeref
  |nilFunc=>exact SR.nilDeref
  |AI hl hj n xs ys=>exact SR.jJ (.inr ⟨hl,Pk (hb.1 hj) _⟩) rfl
  |oO hl hj hv=>
   cases v'<;>first|(cases hv;done)|exact SR.pure (Q:=QX S K) (NX.value xz)|skip
   .rename_i a;cases a<;>first|(cases hv;done)|exact SR.pure (Q:=QX S K) (NX.value xz)
   .rename_i f xs ys;cases f<;>first|(cases hv;done)|exact SR.pure (Q:=QX S K) (NX.value xz)
  |_=>exact SR.pure (Q:=QX S K) (NX.value xz)
 case binOp op t x y t2=>
  have hx:=h.at (bG x (by simp[Op.operands]))
  have hy:=h.at (bG y (by simp[Op.operands]))
  by_cases hj:p.l=false/\(op=.eql\/op=.neq)/\(r x=.tuple #[]\/r y=.tuple #[])
  ·
   obtain⟨hl,hj⟩:=hj
   have hd:az P (Go.eqGuard op t x y (r x) (r y)>>=fun _=>Go.binOp op t (r x) (r y))/\vz (Go.eqGuard op t x y (r x) (r y)>>=fun _=>Go.binOp op t (r x) (r y))=true:=by
    have hnp:eG (r x) (r y)=false:=by rcases hj.2 with e|e<;>rw[e]<;>cases r x<;>cases r y<;>rfl
    have hg:Go.eqGuard op t x y (r x) (r y)=Pure.pure ():=by
     rcases hj.1 with rfl|rfl
     .rw[oP];rcases hj.2 with e|e<;>rw[e]<;>cases r x<;>cases r y<;>rfl
     .rw[oQ];rcases hj.2 with e|e<;>rw[e]<;>cases r x<;>cases r y<;>rfl
    rw[hg];show az P (Go.binOp op t (r x) (r y))/\vz (Go.binOp op t (r x) (r y))=true;rcases hj.1 with rfl|rfl
    .simp only[mh,Bool.and_eq_true]at bJ;rw[aq.qK t hnp hj.2];exact⟨az.bind (jM bJ.1 hj.2) _,jN _⟩
    .simp only[mh,Bool.and_eq_true]at bJ;rw[aq.qL t hnp hj.2];exact⟨az.bind (jM bJ.1 hj.2) _,jN _⟩
   exact SR.cH (SR.jJ (.inr ⟨hl,hd.1⟩) hd.2)
  .refine SR.cH ((SR.eqGuard op t bJ x y hx hy fun h1 h2=>hj ⟨h1,h2⟩).av fun q _ hq=>SR.binOp hc op t bJ (hx.mono hq) (hy.mono hq))
 case unOp op t x=>exact SR.cH (SR.unary op (h.at (bG x (by simp[Op.operands]))))
 case convert s d x=>exact SR.cH (SR.convert s d bJ (h.at (bG x (by simp[Op.operands]))))
 case makeFunc fn fs cs=>
  cases fn<;>simp only[Bool.false_eq_true]at bJ;rename_i f;have h1:AR S p (fs.map r) (fs.map r'):=h.many fun x hx=>bG x (by simp[Op.operands,hx]);have h2:AR S p (cs.map r) (cs.map r'):=h.many fun x hx=>bG x (by simp[Op.operands,hx]);exact SR.pure (.value (.func bJ h1.1 h2.1 h1.2 h2.2))
 case makeMap t rs=>
  cases rs<;>simp only[Bool.false_eq_true]at bJ;exact SR.cH (SR.makeMap t)
 case makeSlice t l c=>exact SR.cH (SR.makeSlice hz t (h.at (bG l (by simp[Op.operands]))) (h.at (bG c (by simp[Op.operands]))))
 case slice t x lo hi mx=>
  have hl:p.l=true->False:=fun h=>by have:=hs h;cases this
  exact SR.mono (fun q n n' _ h=>h.elim id fun h=>(hl h.1).elim) (SR.Dh (fun h=>(hl h).elim) h ⟨dst,.slice t x lo hi mx,ty,pos,af,gd⟩ rfl bG fun h=>(hl h).elim)
 case fieldAddr t x f=>
  refine SR.cH (SR.fieldAt t f ?_ (h.at (bG x (by simp[Op.operands]))));intro fs g i hu hg hi;simp only[hu,hg,hi]at bJ;simpa using bJ
 case field t x f=>exact SR.cH (SR.field t f (h.at (bG x (by simp[Op.operands]))))
 case indexAddr t x i=>exact SR.cH (SR.indexAt t (h.at (bG x (by simp[Op.operands]))) (h.at (bG i (by simp[Op.operands]))))
 case index t x i=>exact SR.cH (SR.index t (h.at (bG x (by simp[Op.operands]))) (h.at (bG i (by simp[Op.operands]))))
 case lookup t x i ok=>
  exact SR.cH (SR.lookup hz hc t bJ ok (h.at (bG x (by simp[Op.operands]))) (h.at (bG i (by simp[Op.operands]))))
 case mapUpdate t m k x=>
  simp only[Bool.and_eq_true,Bool.or_eq_true,Bool.not_eq_true']at bJ
  have hJ:S JK=true->fD P t=true\/EK P t=true:=fun h=>by
   rcases bJ.2 with(h2|h2)|h2
   .rw[h]at h2;cases h2
   .exact .inl h2
   .exact .inr h2
  exact SR.Hh (SR.mapUpdate Lg hc t hJ bJ.1 hk (h.at (bG m (by simp[Op.operands]))) (h.at (bG k (by simp[Op.operands]))) (h.at (bG x (by simp[Op.operands]))))
 case extract x i=>exact SR.cH (SR.extract (h.at (bG x (by simp[Op.operands]))) i)
 case call c=>
  obtain⟨cl,as,ts⟩:=c;have ha:AR S p (as.map r) (as.map r'):=h.many fun x hx=>bG x (by simp[Op.operands,Call.operands,hx]);unfold rt at bJ;cases cl<;>simp only[Bool.false_eq_true]at bJ;case value f=>exact SR.kM hb (h.at bJ) ha
  case builtin b=>
   have hE2:p.l=true->∀a l c,(as.map r)[0]?=some (.slice (some a) l c)->a.spot=none:=by
    intro hl a l c e;have hE:=hE hl;rw[Array.getElem?_map]at e;cases h0:as[0]? with
    |none=>rw[h0]at e;cases e
    |some x=>
     rw[h0]at e;simp only[Option.map_some,Option.some.injEq]at e;simp only[kg,h0]at hE;exact uf hE e
   cases b<;>simp only[Bool.false_eq_true]at bJ;case append=>exact SR.cH (SR.append hz ts bJ ty ha hE2)
   case len=>exact SR.cH (SR.len ts bJ ty ha)
   case copy=>exact SR.cH (SR.copy ts ty ha)
   case clear=>exact SR.cH (SR.clear hz ts ty ha)
   case max=>exact SR.cH (SR.max ts ty ha)
   case min=>exact SR.cH (SR.min ts ty ha)
end
def Di (P:Program):Op->Option Nat
 |.load t _=>if fA P t=true then some (rm P t)else none
 |_=>none
def Hi:Op->Bool
 |.load _ _=>true
 |_=>false
def yd (P:Program) (ops:Array Oper):Bool:=ops.any fun o=>match o.op with|.mapUpdate t _ _ _=>!fD P t|_=>false
def Lk (P:Program) (ops:Array Oper):Bool:=(List.range ops.size).all fun i=>match ops[i]? with
 |some o=>(match o.op with
  |.mapUpdate t _ k _=>fD P t||(match k with
   |.tmp s=>ops.all (fun o=>!(o.dst==some s)||Di P o.op==some (nD P t))&&(List.range i).any (fun j=>(ops[j]?).bind (·.dst)==some s)
   |_=>false)
  |_=>true)
 |none=>true
def KR (P:Program) (ops:Array Oper) (is:List Nat) (tmps:Array Value):Prop:=yd P ops=true->Lk P ops=true/\is.Pairwise (·<·)/\
 ∀s n,(∀o∈ops,o.dst=some s->Di P o.op=some n)->(∃(j:Nat) (o:Oper),ops[j]?=some o/\o.dst=some s/\j∉is)->rn n (tmps.getD s undef)
def gK:Item->Bool
 |.inRegion _ _=>false
 |_=>true
def gL (P:Program) (tmps:Array Value):List Item->Prop
 | []=>True
 |it::k=>(∀x∈k,gK x=true)/\∀ops is,it=.inRegion ops is->KR P ops is tmps
theorem gL.no {P:Program} (h:∀x∈l,gK x=true):gL P tmps l:=by
 cases l with
 |nil=>trivial
 |cons it k=>exact⟨fun x hx=>h x (List.mem_cons_of_mem _ hx),fun ops is e=>by have:=h it List.mem_cons_self;rw[e]at this;cases this⟩
theorem gL.put {P:Program} {it:Item} (hk:∀x∈k,gK x=true) (hi:gK it=true):gL P tmps (it::k):=gL.no fun x hx=>by
 rcases List.mem_cons.1 hx with rfl|hx
 .exact hi
 .exact hk x hx
theorem gL.YB {P:Program} {a b:Item} (hk:∀x∈k,gK x=true) (ha:gK a=true) (hb:gK b=true):gL P tmps (a::b::k):=gL.put (fun x hx=>by
 rcases List.mem_cons.1 hx with rfl|hx
 .exact hb
 .exact hk x hx) ha
def nF (P:Program) (o:Oper) (v:Value):Prop:=∀n,Di P o.op=some n->rn n v
def jR (f:Frame):Prop:=∀o,f.oper?=some o->Hi o.op=false
theorem jR.fits {P:Program} (h:jR f) (v:Value):∀o,f.oper?=some o->nF P o v:=fun o ho n hn=>by
 have:=h o ho;cases hx:o.op<;>rw[hx]at hn this<;>first|cases hn|cases this
theorem mH (n:Nat):rn n undef:=fun xs e=>by cases e
theorem KR.start {P:Program} {S:Nat->Bool} (h:Lk P ops=true):KR P ops (List.range ops.size) tmps:=fun _=>⟨h,List.pairwise_lt_range,fun s n _ ⟨j,o,hj,_,hn⟩=>absurd (List.mem_range.2 (Array.getElem?_eq_some_iff.1 hj).1) hn⟩
theorem KR.done {P:Program} (h:KR P ops (i::rest) tmps) (hv:∀o,ops[i]?=some o->nF P o v):
 KR P ops rest (match(ops[i]?).bind (·.dst)with|some d=>tmps.setIfInBounds d v|none=>tmps):=fun hs=>by
 obtain⟨h1,h2,h3⟩:=h hs;refine⟨h1,(List.pairwise_cons.1 h2).2,fun s n bG ⟨j,o,hj,hd,hn⟩=>?_⟩;by_cases hi:(ops[i]?).bind (·.dst)=some s
 .rw[hi];simp only;obtain⟨oi,ho,hdi⟩:=Option.bind_eq_some_iff.1 hi;have hf:=hv oi ho n (bG oi (Array.mem_of_getElem? ho) hdi);rw[Array.getD_eq_getD_getElem?,Array.getElem?_setIfInBounds];split
  .split
   .exact hf
   .exact mH n
  .rename_i hx;exact absurd rfl hx
 .have YC:j∉i::rest:=fun hm=>by
   rcases List.mem_cons.1 hm with rfl|hm
   .rw[hj]at hi;exact hi hd
   .exact hn hm
  have hold:=h3 s n bG ⟨j,o,hj,hd,YC⟩;cases hb:(ops[i]?).bind (·.dst)with
  |none=>exact hold
  |some d=>
   simp only;have bC:d≠s:=fun e=>by subst e;exact hi hb
   rw[Array.getD_eq_getD_getElem?,Array.getElem?_setIfInBounds_ne bC,<-Array.getD_eq_getD_getElem?];exact hold
theorem KR.fits {P:Program} (h:KR P ops (i::rest) tmps) (ho:ops[i]?=some o) {r:Operand->Value} (hr:∀s,r (.tmp s)=tmps.getD s undef):vI P r o.op:=by
 unfold vI;split
 .rename_i t m k x bJ;intro hl
  have hs:yd P ops=true:=by
   unfold yd;obtain⟨ar,he⟩:=Array.getElem?_eq_some_iff.1 ho;exact Array.any_eq_true.2 ⟨i,ar,by rw[he,bJ];simp[hl]⟩
  obtain⟨h1,h2,h3⟩:=h hs;have h4:=List.all_eq_true.1 h1 i (List.mem_range.2 (Array.getElem?_eq_some_iff.1 ho).1);simp only[ho,bJ,hl,Bool.false_or]at h4;cases k with
  |tmp s=>
   simp only[Bool.and_eq_true]at h4;rw[hr];obtain⟨j,hj,YD⟩:=List.any_eq_true.1 h4.2;have YD:(ops[j]?).bind (·.dst)=some s:=by simpa using YD
   obtain⟨oj,EN,Su⟩:=Option.bind_eq_some_iff.1 YD;refine h3 s _ (fun o2 vJ Tp=>?_) ⟨j,oj,EN,Su,fun hm=>?_⟩
   .have:=Array.all_eq_true_iff_forall_mem.1 h4.1 o2 vJ;rw[Tp]at this;simpa using this
   .have ar:=List.mem_range.1 hj;rcases List.mem_cons.1 hm with rfl|hm
    .omega
    .have:=(List.pairwise_cons.1 h2).1 j hm;omega
  |_=>cases h4
 .trivial
def codeOk (P:Program) (S:Nat->Bool):Code->Bool
 |.region _ ops draw=>(ops.all fun o=>nE P S o.op||fE S o.op)&&(!S JK||!yd P ops||(!draw&&Lk P ops))
 |.seq a b=>codeOk P S a&&codeOk P S b
 |.cond c a b=>gJ P S c&&codeOk P S a&&codeOk P S b
 |.block _ c|.loop c|.scope c=>codeOk P S c
 |.rangeFunc f _ a b=>gJ P S f&&codeOk P S a&&codeOk P S b
 |.label n=>decide (n<100000)||!S (P.funcs.size+P.globals.size+1+(n-100000))
 |_=>true
def cP:Code->Bool
 |.seq a b=>cP a&&cP b
 |.cond _ a b=>cP a&&cP b
 |.block _ c|.loop c|.scope c=>cP c
 |.rangeFunc ..=>false
 |_=>true
abbrev KS (P:Program) (S:Nat->Bool):Kz:=⟨fun c=>codeOk P S c=true,fun _ _=>True⟩
inductive CR (P:Program) (S:Nat->Bool) (H:Code->Code->Prop):Code->Code->Prop
 |same {c:Code} (h:codeOk P S c=true) (hr:cP c=true\/∀a b,¬H a b):CR P S H c c
 |hole {c c':Code} (h:H c c'):CR P S H c c'
 |seq {a a' b b':Code} (ha:CR P S H a a') (hb:CR P S H b b'):CR P S H (.seq a b) (.seq a' b')
 |cond {c:Operand} {a a' b b':Code} (hc:gJ P S c=true) (ha:CR P S H a a') (hb:CR P S H b b'):CR P S H (.cond c a b) (.cond c a' b')
 |block (i:Nat) {a a':Code} (ha:CR P S H a a'):CR P S H (.block i a) (.block i a')
 |loop {a a':Code} (ha:CR P S H a a'):CR P S H (.loop a) (.loop a')
 |refuse (w:String) (c':Code) (hr:∀a b,¬H a b):CR P S H (.refuse w) c'
structure Closed (P:Program) (F:Array Func) (S:Nat->Bool) (H:FuncId->Code->Code->Prop):Prop where
 ib:bc P
 dA:aI P
 Tq:S JK=true->P.info? 1000000=none
 size:F.size=P.funcs.size
 vK:∀f,S f=true->((∀a b,¬H f a b)↔S (P.funcs.size+P.globals.size+1+f)=false)
 body:∀f,S f=true->(P.funcs[f]?=none/\F[f]?=none)\/∃fn kE c c',P.funcs[f]?=some fn/\F[f]?=some kE/\fn.body=some c/\kE.body=some c'/\CR P S (H f) c c'/\
  fn.name≠ "runtime.NumGoroutine" /\kE.name≠ "runtime.NumGoroutine" /\fn.ntmps=kE.ntmps/\fn.results=kE.results
theorem Closed.mI {P:Program} {F:Array Func} {S:Nat->Bool} {H:FuncId->Code->Code->Prop} (h:Closed P F S H):oT P F S:=⟨h.Tq,fun f hf=>
 (h.body f hf).imp id fun⟨fn,kE,c,c',h1,h2,h3,h4,_,h5,h6,_⟩=>⟨fn,kE,h1,h2,by rw[h3];rfl,by rw[h4];rfl,h5,h6⟩⟩
def iv (P:Program) (S:Nat->Bool) (p:Pi):Prop:=∀g,g<P.globals.size->S (P.funcs.size+g)=true->p g g
theorem iv.mono {P:Program} {S:Nat->Bool} {p q:Pi} (h:iv P S p) (k:Le p q):iv P S q:=fun g a b=>k _ _ (h g a b)
section
variable (P:Program) (S:Nat->Bool) (H:Code->Code->Prop) (p:Pi)
inductive IR:Item->Item->Prop
 |code {c c':Code} (h:CR P S H c c'):IR (.code c) (.code c')
 |inBlock (i:Nat):IR (.inBlock i) (.inBlock i)
 |inLoop {c c':Code} (h:CR P S H c c'):IR (.inLoop c) (.inLoop c')
 |inScope {c:Code} (h:codeOk P S c=true) (hr:cP c=true\/∀a b,¬H a b):IR (.inScope c) (.inScope c)
 |inRegion {ops:Array Oper} (l:List Nat) (h:∀o∈ops,(nE P S o.op||fE S o.op)=true):IR (.inRegion ops l) (.inRegion ops l)
 |nG {l l':Nat} (h:p l l') (hr:∀a b,¬H a b):IR (.inRangeFunc l) (.inRangeFunc l')
 |ju {l l':Nat} (h:p l l') (hr:∀a b,¬H a b):IR (.endRangeFunc l) (.endRangeFunc l')
 |begin:IR .beginRound .beginRound
inductive TL:List Item->List Item->Prop
 |nil:TL [] []
 |cons {i i':Item} {l l':List Item} (h:IR P S H p i i') (t:TL l l'):TL (i::l) (i'::l')
inductive DL:List Deferred->List Deferred->Prop
 |nil:DL [] []
 |cons {r r':Nat} {l l':List Deferred} (h:p r r') (t:DL l l'):DL ({target:=.collected r,args:=#[]}::l) ({target:=.collected r',args:=#[]}::l')
inductive CL:List PanicEntry->List PanicEntry->Prop
 |nil:CL [] []
 |cons {v v':Value} (b c:Bool) {l l':List PanicEntry} (h:VR S p v v') (t:CL l l'):CL (⟨v,b,c⟩::l) (⟨v',b,c⟩::l')
inductive MR:FrameMode->FrameMode->Prop
 |run:MR .run .run
 |returning:MR .returning .returning
 |panicking {l l':List PanicEntry} (h:CL S p l l'):MR (.panicking l) (.panicking l')
inductive RR:Option Nat->Option Nat->Prop
 |none:RR .none .none
 |some {l l':Nat} (h:p l l'):RR (.some l) (.some l')
end
section
variable (P:Program) (S:Nat->Bool) (H:FuncId->Code->Code->Prop) (p:Pi)
structure kx (f f':Frame):Prop where
 fn:f.fn=f'.fn
 NK:S f.fn=true
 tmps:AR S p f.tmps f'.tmps
 todo:TL P S (H f.fn) p f.todo f'.todo
 defers:DL p f.defers f'.defers
 mode:MR S p f.mode f'.mode
 kind:f.kind=.normal
 kh:f'.kind=.normal
 round:RR p f.roundOf f'.roundOf
 vK:f.roundOf=none\/∀a b,¬H f.fn a b
 nd:(f.defers=[]/\f'.defers=[])\/∀a b,¬H f.fn a b
 wide:(∀a b,¬H f.fn a b)\/∀fn,P.funcs[f.fn]?=some fn->fn.ntmps<=f.tmps.size
 Ll:S JK=true->gL P f.tmps f.todo
inductive FL:List Frame->List Frame->Prop
 |one {f f':Frame} (h:kx P S H p f f') (r:f.roundOf=.none/\∀c c',¬H f.fn c c'):FL [f] [f']
 |cons {f f':Frame} {l l':List Frame} (h:kx P S H p f f') (t:FL l l') (mJ:S JK=true->∀g,l.head?=some g->jR g):FL (f::l) (f'::l')
end
section
variable {P:Program} {F:Array Func} {S:Nat->Bool} {H:Code->Code->Prop} {p q:Pi}
theorem IR.mono (h:Le p q) {i i':Item} (x:IR P S H p i i'):IR P S H q i i':=by
 cases x with
 |code h=>exact .code h
 |inBlock i=>exact .inBlock i
 |inLoop h=>exact .inLoop h
 |inScope h hr=>exact .inScope h hr
 |inRegion l h=>exact .inRegion l h
 |nG g hr=>exact .nG (h _ _ g) hr
 |ju g hr=>exact .ju (h _ _ g) hr
 |begin=>exact .begin
theorem TL.mono (h:Le p q) (x:TL P S H p l l'):TL P S H q l l':=by
 induction x with
 |nil=>exact .nil
 |cons g _ ih=>exact .cons (g.mono h) ih
theorem DL.mono (h:Le p q) {l l':List Deferred} (x:DL p l l'):DL q l l':=by
 induction x with
 |nil=>exact .nil
 |cons g _ ih=>exact .cons (h _ _ g) ih
theorem CL.mono (h:Le p q) {l l':List PanicEntry} (x:CL S p l l'):CL S q l l':=by
 induction x with
 |nil=>exact .nil
 |cons b c g _ ih=>exact .cons b c (g.mono h) ih
theorem MR.mono (h:Le p q) {l l':FrameMode} (x:MR S p l l'):MR S q l l':=by
 cases x with
 |run=>exact .run
 |returning=>exact .returning
 |panicking g=>exact .panicking (g.mono h)
theorem RR.mono (h:Le p q) {l l':Option Nat} (x:RR p l l'):RR q l l':=by
 cases x with
 |none=>exact .none
 |some g=>exact .some (h _ _ g)
end
section
variable {P:Program} {F:Array Func} {S:Nat->Bool} {H:FuncId->Code->Code->Prop} {p q:Pi}
theorem kx.mono (h:Le p q) (x:kx P S H p f f'):kx P S H q f f':=
 ⟨x.fn,x.NK,x.tmps.mono h,x.todo.mono h,x.defers.mono h,x.mode.mono h,x.kind,x.kh,x.round.mono h,x.vK,x.nd,x.wide,x.Ll⟩
theorem FL.mono (h:Le p q) {l l':List Frame} (x:FL P S H p l l'):FL P S H q l l':=by
 induction x with
 |one g r=>exact .one (g.mono h) r
 |cons g _ mJ ih=>exact .cons (g.mono h) ih mJ
theorem VR.undef:VR S p Go.undef Go.undef:=VR.plain 2 _ (by simp[aq.plain,Go.undef])
theorem kx.eval (h:kx P S H p f f') (hg:iv P S p):qs P S p f.eval f'.eval where
 tmp t:=h.tmps.getD t VR.undef
 const v:=⟨rfl,rfl⟩
 global g hl hs:=.ptr 0 none (hg g hl hs)
 func f:=⟨rfl,rfl⟩
theorem kx.AS (h:kx P S H p f f') (hl:TL P S (H f.fn) p l l') (hr:S JK=true->gL P f.tmps l):kx P S H p {f with todo:=l} {f' with todo:=l'}:=
 ⟨h.fn,h.NK,h.tmps,hl,h.defers,h.mode,h.kind,h.kh,h.round,h.vK,h.nd,h.wide,hr⟩
theorem kx.finish (h:kx P S H p f f') (hv:VR S p v v') (kN:S JK=true->∀o,f.oper?=some o->nF P o v):kx P S H p (f.finish v) (f'.finish v'):=by
 obtain⟨fn,tmps,todo,defers,mode,kind,ro⟩:=f;obtain⟨kE,rx,Tt,Lm,Tv,kh,ro'⟩:=f';obtain⟨h1,h2,h3,h4,h5,h6,h7,h8,h9,te,oV,ye,yf⟩:=h;simp only at h1 h2 h3 h4 h5 h6 h7 h8 h9 te oV ye yf;subst h1;cases h4 with
 |nil=>exact⟨rfl,h2,h3,.nil,h5,h6,h7,h8,h9,te,oV,ye,yf⟩
 |cons hi ht=>
  cases hi with
  |inRegion l ho=>
   cases l with
   |nil=>exact⟨rfl,h2,h3,.cons (.inRegion _ ho) ht,h5,h6,h7,h8,h9,te,oV,ye,yf⟩
   |cons i rest=>
    refine⟨rfl,h2,?_,.cons (.inRegion _ ho) ht,h5,h6,h7,h8,h9,te,oV,ye.imp id fun h fn hf=>?_,fun hj=>⟨(yf hj).1,fun ops is e=>?_⟩⟩
    .simp only[Frame.finish];split
     .exact h3.set _ hv
     .exact h3
    .simp only[Frame.finish];split
     .rw[Array.size_setIfInBounds];exact h fn hf
     .exact h fn hf
    .cases e;exact KR.done ((yf hj).2 _ _ rfl) fun o hox=>kN hj o hox
  |nG g hr=>exact⟨rfl,h2,h3,.cons (.ju g hr) ht,h5,h6,h7,h8,h9,te,oV,ye,fun hj=>gL.put (yf hj).1 rfl⟩
  |begin=>exact⟨rfl,h2,h3,ht,h5,h6,h7,h8,h9,te,oV,ye,fun hj=>gL.no (yf hj).1⟩
  |code g=>exact⟨rfl,h2,h3,.cons (.code g) ht,h5,h6,h7,h8,h9,te,oV,ye,yf⟩
  |inBlock i=>exact⟨rfl,h2,h3,.cons (.inBlock i) ht,h5,h6,h7,h8,h9,te,oV,ye,yf⟩
  |inLoop g=>exact⟨rfl,h2,h3,.cons (.inLoop g) ht,h5,h6,h7,h8,h9,te,oV,ye,yf⟩
  |inScope g hr=>exact⟨rfl,h2,h3,.cons (.inScope g hr) ht,h5,h6,h7,h8,h9,te,oV,ye,yf⟩
  |ju g hr=>exact⟨rfl,h2,h3,.cons (.ju g hr) ht,h5,h6,h7,h8,h9,te,oV,ye,yf⟩
theorem CL.append {l l' m m':List PanicEntry} (h:CL S p l l') (k:CL S p m m'):CL S p (l++m) (l'++m'):=by
 induction h with
 |nil=>exact k
 |cons b c g _ ih=>exact .cons b c g ih
theorem kx.raise (h:kx P S H p f f') {l l':List PanicEntry} (hl:CL S p l l'):kx P S H p (f.raise l) (f'.raise l'):=by
 obtain⟨fn,tmps,todo,defers,mode,kind,ro⟩:=f;obtain⟨kE,rx,Tt,Lm,Tv,kh,ro'⟩:=f';obtain⟨h1,h2,h3,h4,h5,h6,h7,h8,h9,te,oV,ye,yf⟩:=h;simp only at h1 h2 h3 h4 h5 h6 h7 h8 h9 te oV ye yf;cases h6 with
 |run=>exact⟨h1,h2,h3,h4,h5,.panicking hl,h7,h8,h9,te,oV,ye,yf⟩
 |returning=>exact⟨h1,h2,h3,h4,h5,.panicking hl,h7,h8,h9,te,oV,ye,yf⟩
 |panicking g=>exact⟨h1,h2,h3,h4,h5,.panicking (hl.append g),h7,h8,h9,te,oV,ye,yf⟩
theorem kx.enter (hc:Closed P F S H) {f:Nat} (hf:S f=true) {xs cD:Array Value} (h:AR S p xs cD) {k k':CallKind} (hk:k=.normal) (xA:k'=.normal):kx P S H p (Frame.enter P f xs k) (Frame.enter (ac P F) f cD k'):=by
 subst hk;subst xA;unfold Frame.enter;rcases hc.body f hf with⟨h1,h2⟩|⟨fn,kE,c,c',h1,h2,h3,h4,h5,_,_,h6,_⟩
 .have uc:(ac P F).funcs[f]?=none:=h2;simp only[h1,uc,Option.map_none,Option.getD_none,Option.bind_none];rw[h.1];exact⟨rfl,hf,h.append (AR.replicate _ VR.undef),.cons (.code (.same rfl (.inl rfl))) .nil,.nil,.run,rfl,rfl,.none,.inl rfl,.inl ⟨rfl,rfl⟩,.inr fun fn hf=>(by simp only at hf;rw[h1]at hf;cases hf),fun _=>gL.no fun x hx=>by simp at hx;subst hx;rfl⟩
 .have uc:(ac P F).funcs[f]?=some kE:=h2;simp only[h1,uc,h3,h4,Option.map_some,Option.getD_some,Option.bind_some];rw[h.1,h6]
  exact⟨rfl,hf,h.append (AR.replicate _ VR.undef),.cons (.code h5) .nil,.nil,.run,rfl,rfl,.none,.inl rfl,.inl ⟨rfl,rfl⟩,.inr fun gn hg=>(by
   simp only at hg;rw[h1]at hg;cases hg;simp only[Array.size_append,Array.size_replicate];have:=h.1;omega),fun _=>gL.no fun x hx=>by simp at hx;subst hx;rfl⟩
theorem kx.Ln {l l' f:Nat} (hn:∀a b,¬H f a b) (hl:p l l') (hf:S f=true) (h:AR S p xs cD) {b:Code} (ha:codeOk P S a=true) (hb:codeOk P S b=true):
 kx P S H p (Frame.round l f xs a b .normal) (Frame.round l' f cD a b .normal):=
 ⟨rfl,hf,h,.cons (.code (.same ha (.inr hn))) (.cons .begin (.cons (.code (.same hb (.inr hn))) .nil)),.nil,.run,rfl,rfl,.some hl,.inr hn,.inr hn,.inl hn,fun _=>gL.no fun x hx=>by have hx:x∈ [Item.code a,.beginRound,.code b]:=hx;simp at hx;rcases hx with rfl|rfl|rfl<;>rfl⟩
theorem nH (l:Nat):∀(c:Code) {d:Code},cP c=true->findLabel c l=some d->cP d=true:=by
 intro c;induction c with
 |seq a b Tx Ty=>
  intro d hc hd;simp only[cP,Bool.and_eq_true]at hc;simp only[findLabel]at hd;cases ha:findLabel a l with
  |some r=>rw[ha]at hd;simp only[Option.some.injEq]at hd;subst hd;simp only[cP,Bool.and_eq_true];exact⟨Tx hc.1 ha,hc.2⟩
  |none=>rw[ha]at hd;exact Ty hc.2 hd
 |label l'=>
  intro d hc hd;simp only[findLabel]at hd;split at hd
  .simp only[Option.some.injEq]at hd;subst hd;rfl
  .cases hd
 |_=>intro d _ hd;cases hd
theorem AT {H:Code->Code->Prop} (id:Nat) (h:TL P S H p l l'):(exitTo id l=none/\exitTo id l'=none)\/∃k k',exitTo id l=some k/\exitTo id l'=some k'/\TL P S H p k k':=by
 induction h with
 |nil=>exact .inl ⟨rfl,rfl⟩
 |cons hi ht ih=>
  cases hi with
  |inBlock i=>
   simp only[exitTo];split
   .exact .inr ⟨_,_,rfl,rfl,ht⟩
   .exact ih
  |_=>exact ih
theorem vL (l:Nat):∀(c:Code) {d:Code},codeOk P S c=true->findLabel c l=some d->codeOk P S d=true:=by
 intro c;induction c with
 |seq a b Tx Ty=>
  intro d hc hd;simp only[codeOk,Bool.and_eq_true]at hc;simp only[findLabel]at hd;cases ha:findLabel a l with
  |some r=>rw[ha]at hd;simp only[Option.some.injEq]at hd;subst hd;simp only[codeOk,Bool.and_eq_true];exact⟨Tx hc.1 ha,hc.2⟩
  |none=>rw[ha]at hd;exact Ty hc.2 hd
 |label l'=>
  intro d hc hd;simp only[findLabel]at hd;split at hd
  .simp only[Option.some.injEq]at hd;subst hd;rfl
  .cases hd
 |_=>intro d _ hd;cases hd
theorem AU {H:Code->Code->Prop} (id:Nat) (h:TL P S H p l l'):(gotoIn id l=none/\gotoIn id l'=none)\/∃k k',gotoIn id l=some k/\gotoIn id l'=some k'/\TL P S H p k k':=by
 induction h with
 |nil=>exact .inl ⟨rfl,rfl⟩
 |cons hi ht ih=>
  cases hi with
  | @inScope c hc hr=>
    simp only[gotoIn];cases hd:findLabel c id with
    |some d=>exact .inr ⟨_,_,rfl,rfl,.cons (.code (.same (vL id c hc hd) (hr.imp (fun x=>nH id c x hd) fun x=>x))) (.cons (.inScope hc hr) ht)⟩
    |none=>exact ih
  |_=>exact ih
theorem EO (id:Nat):∀{l k:List Item},(∀x∈l,gK x=true)->exitTo id l=some k->∀x∈k,gK x=true:=by
 intro l;induction l with
 |nil=>intro k _ h;cases h
 |cons it l ih=>
  intro k h e;have hl:∀x∈l,gK x=true:=fun x hx=>h x (List.mem_cons_of_mem _ hx);cases it<;>first|exact ih hl e|skip
  simp only[exitTo]at e;split at e
  .cases e;exact hl
  .exact ih hl e
theorem EP (id:Nat):∀{l k:List Item},(∀x∈l,gK x=true)->gotoIn id l=some k->∀x∈k,gK x=true:=by
 intro l;induction l with
 |nil=>intro k _ h;cases h
 |cons it l ih=>
  intro k h e;have hl:∀x∈l,gK x=true:=fun x hx=>h x (List.mem_cons_of_mem _ hx);cases it<;>first|exact ih hl e|skip
  rename_i body;simp only[gotoIn]at e;cases hd:findLabel body id with
  |none=>rw[hd]at e;exact ih hl e
  |some r=>
   rw[hd]at e;cases e;intro x hx;rcases List.mem_cons.1 hx with rfl|hx
   .rfl
   .rcases List.mem_cons.1 hx with rfl|hx
    .rfl
    .exact hl x hx
def kO (S:Nat->Bool) (f:Frame):Prop:=
 f.mode=.run/\∃o ops i is k,f.todo=.inRegion ops (i::is)::k/\ops[i]?=some o/\fE S o.op=true/\Region.wanted o (yielded ops f.tmps)=true
theorem kO.Pm {S:Nat->Bool} (h:kO S f):jR f:=by
 obtain⟨_,o,ops,i,is,k,h1,h2,h3,_⟩:=h;intro o2 ho;unfold Frame.oper? at ho;rw[h1]at ho;simp only at ho;rw[h2]at ho;cases ho;cases hx:o.op<;>rw[hx]at h3<;>first|rfl|cases h3
theorem pG (ops:Array Oper) {ys:Array Value} (h:AR S p xs ys) (j:Nat):yielded ops xs j=yielded ops ys j:=by
 unfold yielded;cases((ops[j]?).bind (·.dst))with
 |none=>rfl
 |some d=>
  simp only[Option.bind_some];cases hx:xs[d]? with
  |none=>rw[h.none hx]
  |some v=>
   obtain⟨v',np,hr⟩:=h.get hx;rw[np];cases hr with
   |oO _ hj h=>cases v'<;>first|rfl|cases h
   |_=>rfl
theorem mem_seen {P:Program} {fn:FuncId} {e:Event} (h:e∈seen P fn es):e∈es:=by
 have key:∀(quiet:FuncId->Bool) (l:List Event) (q:Bool) (kept:Array Event),e∈(l.foldl (fun(x:Bool×Array Event) (e:Event)=>match x with
  |(q,kept)=>match e.loc with
   |.mark (.extern f)=>(quiet f,kept)
   |_=>(q,if q&&!e.sync then kept else kept.push e)) (q,kept)).2->e∈kept\/e∈l:=by
  intro quiet l;induction l with
  |nil=>intro q kept h;exact .inl h
  |cons x l ih=>
   intro q kept h;rw[List.foldl_cons]at h
   generalize hy:(match(q,kept)with
    |(q,kept)=>match x.loc with
     |.mark (.extern f)=>(quiet f,kept)
     |_=>(q,if q&&!x.sync then kept else kept.push x))=y at h
   obtain⟨q',k'⟩:=y
   have hk:e∈k'->e∈kept\/e=x:=by
    intro he;simp only at hy;split at hy
    .rw[Prod.mk.injEq]at hy;rw[hy.2];exact .inl he
    .rw[Prod.mk.injEq]at hy;rw[<-hy.2]at he;split at he
     .exact .inl he
     .exact Array.mem_push.1 he
   rcases ih q' k' h with h|h
   .exact(hk h).imp id fun h=>by simp[h]
   .exact .inr (by simp[h])
 unfold seen at h;dsimp only at h;rw[<-Array.foldl_toList]at h;have:=key _ _ _ _ h;simpa using this
end
def gw:GStep->World
 |.go _ w _=>w
 |.comm _ _ _ _ w _=>w
 |.spawn _ _ w _=>w
 |.count _ w _=>w
 |.timer _ _ w _=>w
 |.alone _ _ w _=>w
 |.newcoro _ _ _ w _=>w
 |.coroswitch _ _ _ w _=>w
 |.collect _ w _=>w
 |.watch _ w _=>w
 |.ended _ w _=>w
@[simp] theorem jv (es:Array Event) (s:GStep):gw (GStep.after es s)=gw s:=by cases s <;> rfl
theorem EQ (P:Program) (s:Sem α) (w:World):w.drawn<=(world (s.run P w)).drawn:=by
 have:=mD P s w #[];rw[Sem.runT_fst]at this;exact this
theorem kP {P:Program} {s:Sem α} {w:World} {r:Result α} (h:s.run P w=r):w.drawn<=(world r).drawn:=h▸EQ P s w
theorem ry (P:Program) (fr:Frame) (cs:List Frame) (d:Option Dying) (m:String) (w:World):w.drawn<=(gw (endFatal P fr cs d m w)).drawn:=by
 unfold endFatal;dsimp only;split
 .rename_i h;exact kP h
 .rename_i h;exact kP h
 .rename_i h;exact kP h
theorem yh (P:Program) (fr:Frame) (cs:List Frame) (d:Option Dying) (g:Nat) (w:World):w.drawn<=(gw (early P fr cs d g w)).drawn:=by
 unfold early;dsimp only;repeat' split
 all_goals first
  |exact Nat.le_refl _
  |(have hx:=kP (by assumption:Sem.run P (choose (Question.early g)) w=Result.ok _ _);exact hx)
  |(have hx:=kP (by assumption:Sem.run P (choose (Question.early g)) w=Result.halt _ _);exact hx)
theorem pH (P:Program) (fr:Frame) (cs:List Frame) (d:Option Dying) (s:Sem Next) (w:World):(world (s.runT P w #[]).1).drawn<=(gw (stepG.apply P true fr cs d s w)).drawn:=by
 unfold stepG.apply;simp only[if_true];generalize s.runT P w #[]=x;obtain⟨r,es⟩:=x;simp only[jv];split;all_goals(try exact Nat.le_refl _)
 all_goals(try(split<;>exact Nat.le_refl _))
 all_goals first
  |exact ry ..
  |exact yh ..
  |(split<;>split<;>exact Nat.le_refl _)
section
variable (P:Program) (S:Nat->Bool) (H:FuncId->Code->Code->Prop) (N:Nat)
def dg (p:Pi) (w w':World) (b:Frame) (bs:List Frame) (aN:List Frame) (s s':GStep):Prop:=
 (∃o w1 es,s=.ended o w1 es)\/(∃q ch Sv w1 es,CL S q ch Sv/\s=.go {frame:=b.raise ch,callers:=bs,status:=.running,dying:=none} w1 es)\/
 ∃c n w1 fR es cS,cq P S (KS P S) N p w w' c n w1 fR/\(∀e∈cS,Ku N (ext p w.heap.size w'.heap.size c) e)/\
  ((∃f f' top dm,FL P S H (ext p w.heap.size w'.heap.size c) (f::top) (f'::dm)/\
     s=.go {frame:=f,callers:=top++b::bs,status:=.running,dying:=none} w1 es/\
     s'=.go {frame:=f',callers:=dm++aN,status:=.running,dying:=none} fR cS)\/
   (∃v v',VR S (ext p w.heap.size w'.heap.size c) v v'/\
     s=.go {frame:=b.finish v,callers:=bs,status:=.running,dying:=none} w1 es/\
     ((∃b' vM,aN=b'::vM/\s'=.go {frame:=b'.finish v',callers:=vM,status:=.running,dying:=none} fR cS)\/
      (aN=[]/\s'=.ended (.done v') fR cS))))
end
section
variable {P:Program} {F:Array Func} {S:Nat->Bool} {H:FuncId->Code->Code->Prop} {N:Nat} {p:Pi} {w w':World} {b:Frame} {bs:List Frame} {aN:List Frame}
theorem dg.ended (o:Outcome) (w1:World) (es:Array Event):dg P S H N p w w' b bs aN (.ended o w1 es) s':=.inl ⟨o,w1,es,rfl⟩
theorem dg.go (h:WR P S (KS P S) N p w w') {top:List Frame} (hf:FL P S H p (f::top) (f'::dm)):
 dg P S H N p w w' b bs aN (.go {frame:=f,callers:=top++b::bs,status:=.running,dying:=none} w) (.go {frame:=f',callers:=dm++aN,status:=.running,dying:=none} w'):=
 .inr (.inr ⟨0,0,w,w',#[],#[],cq.refl h,by simp,.inl ⟨f,f',top,dm,by rw[bz];exact hf,rfl,rfl⟩⟩)
theorem dg.ret (h:WR P S (KS P S) N p w w') (hv:VR S p v v') (b':Frame) (vM:List Frame):
 dg P S H N p w w' b bs (b'::vM) (.go {frame:=b.finish v,callers:=bs,status:=.running,dying:=none} w) (.go {frame:=b'.finish v',callers:=vM,status:=.running,dying:=none} w'):=
 .inr (.inr ⟨0,0,w,w',#[],#[],cq.refl h,by simp,.inr ⟨v,v',by rw[bz];exact hv,rfl,.inl ⟨b',vM,rfl,rfl⟩⟩⟩)
theorem dg.Lo (h:WR P S (KS P S) N p w w') (hv:VR S p v v'):
 dg P S H N p w w' b bs [] (.go {frame:=b.finish v,callers:=bs,status:=.running,dying:=none} w) (.ended (.done v') w'):=
 .inr (.inr ⟨0,0,w,w',#[],#[],cq.refl h,by simp,.inr ⟨v,v',by rw[bz];exact hv,rfl,.inr ⟨rfl,rfl⟩⟩⟩)
theorem dg.raised {q:Pi} {v v':List PanicEntry} (h:CL S q v v') (w1:World) (es:Array Event):
 dg P S H N p w w' b bs aN (.go {frame:=b.raise v,callers:=bs,status:=.running,dying:=none} w1 es) s':=.inr (.inl ⟨q,v,v',w1,es,h,rfl⟩)
theorem dg.trans (hm:cq P S (KS P S) N p w w' c n w1 fR) {cS:Array Event} (he:∀e∈cS,Ku N (ext p w.heap.size w'.heap.size c) e) {s:GStep}
 (h:dg P S H N (ext p w.heap.size w'.heap.size c) w1 fR b bs aN s s'):dg P S H N p w w' b bs aN (s.after es) (s'.after cS):=by
 rcases h with⟨o,w2,Yk,rfl⟩|⟨q,ch,Sv,w2,Yk,Dj,rfl⟩|⟨c2,n2,w2,KX,fs,YA,k1,k2,k3⟩
 .exact .inl ⟨o,w2,_,rfl⟩
 .exact .inr (.inl ⟨q,ch,Sv,w2,_,Dj,rfl⟩)
 .rw[hm.size,hm.kG,ns]at k2 k3;refine .inr (.inr ⟨c+c2,n+n2,w2,KX,es++fs,cS++YA,hm.trans k1,fun x hx=>?_,?_⟩)
  .rcases Array.mem_append.1 hx with hx|hx
   .refine(he x hx).mono ?_;rw[<-ns];exact eD _ _ _ _
   .exact k2 x hx
  .rcases k3 with⟨f,f',top,dm,x1,rfl,rfl⟩|⟨v,v',x1,rfl,⟨b',vM,x2,rfl⟩|⟨x2,rfl⟩⟩
   .exact .inl ⟨f,f',top,dm,x1,rfl,rfl⟩
   .exact .inr ⟨v,v',x1,rfl,.inl ⟨b',vM,x2,rfl⟩⟩
   .exact .inr ⟨v,v',x1,rfl,.inr ⟨x2,rfl⟩⟩
def kj (m:Nat) (w w':World):Prop:=∀j,j<m->∀q,w.tape (w.drawn+j) q=w'.tape (w'.drawn+j) q
theorem kj.TA (h:kj m w w') (hm:cq P S (KS P S) N p w w' c n w1 fR):kj (m-n) w1 fR:=by
 intro j hj q;have:=h (n+j) (by omega) q;rw[hm.tape,hm.C9,hm.drawn,hm.kH,Nat.add_assoc,Nat.add_assoc];exact this
theorem dg.run {Q:Pi->α->β->Prop} {s:Sem α} {s':Sem β} (h:SR P F S (KS P S) N Q s s' p) (hw:WR P S (KS P S) N p w w') (hm:kj m w w')
 {ev:Result α->Array Event->Array Event} {Pn:Result β->Array Event->Array Event} (aY:∀r es e,e∈Pn r es->e∈es)
 {k:Result α->GStep} {k':Result β->GStep} (hd:(gw (k' (s'.runT (ac P F) w' #[]).1)).drawn<=w'.drawn+m) (hk:∀r,(world r).drawn<=(gw (k' r)).drawn)
 (TB:∀x w1,dead x->∃o w2 es,k (.halt x w1)=.ended o w2 es)
 (nk:∀c n w1 fR x y,cq P S (KS P S) N p w w' c n w1 fR->Q (ext p w.heap.size w'.heap.size c) x y->kj (m-n) w1 fR->(gw (k' (.ok y fR))).drawn<=fR.drawn+(m-n)->
   dg P S H N (ext p w.heap.size w'.heap.size c) w1 fR b bs aN (k (.ok x w1)) (k' (.ok y fR)))
 (Po:∀c n w1 fR v v',cq P S (KS P S) N p w w' c n w1 fR->VR S (ext p w.heap.size w'.heap.size c) v v'->
   dg P S H N (ext p w.heap.size w'.heap.size c) w1 fR b bs aN (k (.halt (.panic v) w1)) (k' (.halt (.panic v') fR))):
 dg P S H N p w w' b bs aN (GStep.after (ev (s.runT P w #[]).1 (s.runT P w #[]).2) (k (s.runT P w #[]).1)) (GStep.after (Pn (s'.runT (ac P F) w' #[]).1 (s'.runT (ac P F) w' #[]).2) (k' (s'.runT (ac P F) w' #[]).1)):=by
 have ho:=SR.sound h w w' #[] #[] m hw hm (Nat.le_trans (hk _) hd);rcases ho with⟨x,w1,es1,e,hx⟩|⟨c,n,w1,fR,es1,fs,k1,k2,⟨x,y,e,e',hq⟩|⟨v,v',e,e',hv⟩⟩
 .rw[e];obtain⟨o,w2,es,e2⟩:=TB x w1 hx;simp only[e2];exact .inl ⟨o,w2,_,rfl⟩
 .rw[e']at hd;simp only at hd;have hwd:(world (.ok y fR:Result β)).drawn<=w'.drawn+m:=Nat.le_trans (hk _) hd;simp only[world]at hwd;rw[k1.kH]at hwd;rw[e,e'];simp only[Array.empty_append];refine dg.trans k1 (fun z hz=>k2 z (aY _ _ _ hz)) (nk c n w1 fR x y k1 hq (hm.TA k1) ?_);rw[k1.kH];omega
 .rw[e,e'];simp only[Array.empty_append];exact dg.trans k1 (fun z hz=>k2 z (aY _ _ _ hz)) (Po c n w1 fR v v' k1 hv)
end
section
variable {P:Program} {F:Array Func} {S:Nat->Bool} {K:Kz} {N:Nat} {p:Pi}
structure NL (S:Nat->Bool) (K:Kz) (p:Pi) (l l':Loop):Prop where
 h1:l.state=l'.state
 h2:l.pending=l'.pending
 h3:l.fn=l'.fn
 h4:AR S p l.tmps l'.tmps
 h5:l.params=l'.params
 h6:l.assign=l'.assign
 h7:l.body=l'.body
 h8:p l.defers l'.defers
 k1:S l.fn=true
 k2:K l.assign
 k3:K l.body
 k4:∀c,l.pending=some c->K c
 k5:K (.label (100000+l.fn))
theorem NL.or {l l':Loop} (x:NL S K p l l'):OR S K p (.loop l) (.loop l'):=.loop x.h1 x.h2 x.h3 x.h4 x.h5 x.h6 x.h7 x.h8 x.k1 x.k2 x.k3 x.k4 x.k5
theorem SR.getLoop (h:p r r'):SR P F S K N (fun q l l'=>NL S K q l l') (Instr.getLoop r) (Instr.getLoop r') p:=by
 unfold Instr.getLoop;refine(SR.getObj h).bind fun q o o' hq ho=>?_;cases ho<;>first|exact SR.stuck|skip
 rename_i h1 h2 h3 h4 h5 h6 h7 h8 k1 k2 k3 k4 k5;exact SR.pure ⟨h1,h2,h3,h4,h5,h6,h7,h8,k1,k2,k3,k4,k5⟩
theorem SR.enterLoop {f f':Nat} (hff:f=f') (hf:S f=true) (hz:K (.label (100000+f))) (hx:AR S p xs cD) (ps:Array Tmp) {c:Code} (ha:K a) (hc:K c) {o o':Option Nat} (ho:RR p o o'):
 SR P F S K N (fun q x y=>q x.1 y.1/\DL q x.2 y.2) (Instr.enterLoop f xs ps a c o) (Instr.enterLoop f' cD ps a c o') p:=by
 subst hff;unfold Instr.enterLoop;cases ho with
 |none=>
  simp only[bind_assoc,pure_bind];refine(SR.newObj .dK fun _ _ _ _ _ _ _ a=>by cases a).bind fun q r r' hq hr=>?_;refine(SR.newObj (NL.or (l:={state:=.ready,pending:=none,fn:=f,tmps:=xs,params:=ps,assign:=a,body:=c,defers:=r}) (l':={state:=.ready,pending:=none,fn:=f,tmps:=cD,params:=ps,assign:=a,body:=c,defers:=r'}) ⟨rfl,rfl,rfl,hx.mono hq,rfl,rfl,rfl,hr.1,hf,ha,hc,fun c h=>(by cases h),hz⟩) fun _ _ _ _ _ _ _ a=>by cases a).bind fun q2 s s' cw hs=>?_;exact SR.pure ⟨hs.1,.cons (cw _ _ hr.1) .nil⟩
 |some h=>
  simp only[bind_assoc,pure_bind];refine(SR.getLoop h).bind fun q r r' hq hr=>?_;refine(SR.newObj (NL.or (l:={state:=.ready,pending:=none,fn:=f,tmps:=xs,params:=ps,assign:=a,body:=c,defers:=r.defers}) (l':={state:=.ready,pending:=none,fn:=f,tmps:=cD,params:=ps,assign:=a,body:=c,defers:=r'.defers}) ⟨rfl,rfl,rfl,hx.mono hq,rfl,rfl,rfl,hr.h8,hf,ha,hc,fun c h=>(by cases h),hz⟩) fun _ _ _ _ _ _ _ a=>by cases a).bind fun q2 s s' cw hs=>?_;exact SR.pure ⟨hs.1,.nil⟩
theorem SR.beginRound (h:p r r'):SR P F S K N (QE Unit) (Instr.beginRound r) (Instr.beginRound r') p:=by
 unfold Instr.beginRound;refine(SR.getLoop h).bind fun q l l' hq hl=>?_;refine(SR.setObj (hq _ _ h) (NL.or (l:={l with state:=.busy}) (l':={l' with state:=.busy}) ⟨rfl,hl.h2,hl.h3,hl.h4,hl.h5,hl.h6,hl.h7,hl.h8,hl.k1,hl.k2,hl.k3,hl.k4,hl.k5⟩) fun _ _ _ _ _ _ _ a=>by cases a).av fun q2 _ cw=>?_;rw[<-hl.h1];cases l.state with
 |ready=>exact SR.pure rfl
 |done=>exact SR.err _
 |busy=>exact SR.err _
 |exhausted=>exact SR.err _
theorem SR.endRound (h:p r r') (j:Option Code) (hj:∀c,j=some c->K c):SR P F S K N (QV S) (Instr.endRound r j) (Instr.endRound r' j) p:=by
 unfold Instr.endRound;refine(SR.getLoop h).bind fun q l l' hq hl=>?_;refine(SR.setObj (hq _ _ h) (NL.or (l:={l with state:=if j.isNone then .ready else .done,pending:=j}) (l':={l' with state:=if j.isNone then .ready else .done,pending:=j}) ⟨rfl,rfl,hl.h3,hl.h4,hl.h5,hl.h6,hl.h7,hl.h8,hl.k1,hl.k2,hl.k3,hj,hl.k5⟩) fun _ _ _ _ _ _ _ a=>by cases a).av fun q2 _ cw=>?_;exact SR.pure (VR.plain 2 _ rfl)
theorem SR.endLoop (h:p r r'):SR P F S K N (fun _ a b=>a=b/\∀c,a=some c->K c) (Instr.endLoop r) (Instr.endLoop r') p:=by
 unfold Instr.endLoop;refine(SR.getLoop h).bind fun q l l' hq hl=>?_;rw[<-hl.h1]
 have tail:∀q2,Le q q2->SR P F S K N (fun _ a b=>a=b/\∀c,a=some c->K c) (Go.setObj r (.loop {l with state:=.exhausted})>>=fun _=>(Pure.pure l.pending:Sem (Option Code))) (Go.setObj r' (.loop {l' with state:=.exhausted})>>=fun _=>(Pure.pure l'.pending:Sem (Option Code))) q2:=fun q2 cw=>by
  refine(SR.setObj (cw _ _ (hq _ _ h)) (NL.or (l:={l with state:=.exhausted}) (l':={l' with state:=.exhausted}) ⟨rfl,hl.h2,hl.h3,hl.h4.mono cw,hl.h5,hl.h6,hl.h7,cw _ _ hl.h8,hl.k1,hl.k2,hl.k3,hl.k4,hl.k5⟩) fun _ _ _ _ _ _ _ a=>by cases a).av fun q3 _ gv=>?_;exact SR.pure ⟨hl.h2,hl.k4⟩
 split
 .exact(SR.err (α:=PUnit) (β:=PUnit) (Q:=QE PUnit) _).av fun q2 _ cw=>tail q2 cw
 .exact tail q (Le.refl q)
theorem SR.takeDeferred (h:p r r'):SR P F S K N (fun _ a b=>a=[]/\b=[]) (Instr.takeDeferred r) (Instr.takeDeferred r') p:=by
 unfold Instr.takeDeferred;refine(SR.getObj h).bind fun q o o' hq ho=>?_;cases ho<;>first|exact SR.stuck|skip
 refine(SR.setObj (hq _ _ h) .dJ fun _ _ _ _ _ _ _ a=>by cases a).av fun q2 _ cw=>?_;exact SR.pure ⟨rfl,rfl⟩
theorem SR.TC (f f':α->Sem Value):∀(l:List α) {p:Pi} {acc AJ:Array Value},(∀x q,Le p q->SR P F S K N (QV S) (f x) (f' x) q)->AR S p acc AJ->
 SR P F S K N (QA S) (l.foldlM (fun bs a=>Functor.map bs.push (f a)) acc) (l.foldlM (fun bs a=>Functor.map bs.push (f' a)) AJ) p:=by
 intro l;induction l with
 |nil=>intro p acc AJ _ ha;exact SR.pure ha
 |cons x l ih=>
  intro p acc AJ h ha;simp only[List.foldlM_cons];refine SR.bind (Q:=QA S) ?_ fun q a b hq nz=>ih (fun y q2 cw=>h y q2 (hq.trans cw)) nz;exact(h x p (Le.refl p)).bind fun q b b' hq hb=>SR.pure ((ha.mono hq).push hb)
theorem SR.results {fn kE:Func} (hr:fn.results=kE.results) (h:AR S p xs cD):SR P F S K N (QV S) (Go.results fn xs) (Go.results kE cD) p:=by
 unfold Go.results;rw[<-hr];refine SR.bind (Q:=QA S) ?_ fun q vs NH hq hv=>?_
 .rw[Array.mapM_eq_foldlM,<-Array.foldlM_toList,Array.mapM_eq_foldlM,<-Array.foldlM_toList];refine SR.TC _ _ _ (fun x q hq=>?_) AR.empty;cases x with
  |tmp t=>exact SR.pure ((h.mono hq).getD t VR.undef)
  |cell a t=>exact(SR.asAddr ((h.mono hq).getD a VR.undef)).bind fun q2 a a' cw ha=>SR.loadVar t ha
 .refine SR.pure ?_;have:=hv.1;by_cases h1:vs.size=1
  .have Dg:NH.size=1:=by omega
   simp only[h1,Dg,dif_pos];exact hv.2 0 _ _ (by simp[h1]) (by simp[Dg])
  .have Dg:NH.size≠1:=by omega
   simp only[h1,Dg,dif_neg,not_false_eq_true];exact hv.tuple
end
section
variable {P:Program} {F:Array Func} {S:Nat->Bool} {H:FuncId->Code->Code->Prop} {N:Nat} {p:Pi} {w w':World} {b:Frame} {bs:List Frame} {aN:List Frame}
theorem Lp {f:Nat} (h:KS P S (.label (100000+f))):S (P.funcs.size+P.globals.size+1+f)=false:=by
 have h:(decide (100000+f<100000)||!S (P.funcs.size+P.globals.size+1+(100000+f-100000)))=true:=h;rw[Nat.add_sub_cancel_left,decide_eq_false (by omega),Bool.false_or]at h;simpa using h
theorem Lq {f:Nat} (h:S (P.funcs.size+P.globals.size+1+f)=false):KS P S (.label (100000+f)):=by
 show(decide (100000+f<100000)||!S (P.funcs.size+P.globals.size+1+(100000+f-100000)))=true;rw[Nat.add_sub_cancel_left,h];simp
theorem TL.kind {H:Code->Code->Prop} (h:TL P S H p l l'):(match l with|.call _ true _ _::_=>CallKind.wrapped|_=>CallKind.normal)=.normal/\(match l' with|.call _ true _ _::_=>CallKind.wrapped|_=>CallKind.normal)=.normal:=by
 cases h with
 |nil=>exact⟨rfl,rfl⟩
 |cons hi ht=>cases hi<;>exact⟨rfl,rfl⟩
theorem FL.head (h:FL P S H p (f::t) (f'::t')):kx P S H p f f':=by
 cases h with
 |one h=>exact h
 |cons h _ _=>exact h
theorem FL.top {g':Frame} (h:FL P S H p (f::t) (f'::t')) (hg:kx P S H p g g') (hr:g.roundOf=f.roundOf/\g.fn=f.fn):FL P S H p (g::t) (g'::t'):=by
 cases h with
 |one h r=>exact .one hg ⟨hr.1.trans r.1,by rw[hr.2];exact r.2⟩
 |cons h t mJ=>exact .cons hg t mJ
theorem dB (f:Frame) (v:Value):(f.finish v).roundOf=f.roundOf/\(f.finish v).fn=f.fn:=by
 unfold Frame.finish;split<;>exact⟨rfl,rfl⟩
theorem iO (f:Frame) (v:List PanicEntry):(f.raise v).roundOf=f.roundOf/\(f.raise v).fn=f.fn:=by
 unfold Frame.raise;split<;>exact⟨rfl,rfl⟩
def AV (P:Program) (f:Frame):Next->Prop
 |.value v=>∀o,f.oper?=some o->nF P o v
 |.skip=>True
 |_=>jR f
theorem AV.no {P:Program} (h:f.oper?=none) (x:Next):AV P f x:=by
 unfold AV jR;split
 .intro o ho;rw[h]at ho;cases ho
 .trivial
 .intro o ho;rw[h]at ho;cases ho
theorem dg.apply (hc:Closed P F S H) (hw:WR P S (KS P S) N p w w') {top:List Frame} (hf:FL P S H p (f::top) (f'::dm)) (hm:kj m w w')
 {s s':Sem Next} (hs:SR P F S (KS P S) N (QX S (KS P S)) s s' p) (hd:(gw (stepG.apply (ac P F) true f' (dm++aN) none s' w')).drawn<=w'.drawn+m) (hx:S JK=true->∀es x w1 es1,s.runT P w es=(.ok x w1,es1)->AV P f x):
 dg P S H N p w w' b bs aN (stepG.apply P true f (top++b::bs) none s w) (stepG.apply (ac P F) true f' (dm++aN) none s' w'):=by
 have ho:=SR.sound hs w w' #[] #[] m hw hm (Nat.le_trans (pH ..) hd);have fF:=hf.head;have hk:=fF.todo.kind;have TD:(f'.kind==CallKind.early)=false:=by rw[fF.kh];rfl
 rcases ho with⟨x,w1,es1,e,NG⟩|⟨c,n,w1,fR,es1,fs,k1,k2,⟨x,y,e,e',hq⟩|⟨v,v',e,e',hv⟩⟩
 .cases x with
  |stuck why=>exact .inl ⟨_,_,_,by simp only[stepG.apply,if_true,e];rfl⟩
  |unsupported u=>cases u<;>first|exact absurd NG id|exact .inl ⟨_,_,_,by simp only[stepG.apply,if_true,e];rfl⟩
  |_=>exact absurd NG id
 .rw[Array.empty_append]at e';have hle:=eD p w.heap.size w'.heap.size c;have aY:∀z∈seen (ac P F) f'.fn fs,Ku N (ext p w.heap.size w'.heap.size c) z:=fun z hz=>k2 z (mem_seen hz);have Aw:=hf.mono hle;cases hq with
  | @value v v' h=>
    have t:=dg.trans (b:=b) (bs:=bs) (aN:=aN) k1 (es:=seen P f.fn (if f.kind==CallKind.early then #[]else es1)) aY (dg.go k1.rel (Aw.top (Aw.head.finish h fun hj=>hx hj _ _ _ _ e) (dB f v)));simpa only[stepG.apply,if_true,e,e',TD,Bool.false_eq_true,if_false,GStep.after]using t
  |skip=>
   have t:=dg.trans (b:=b) (bs:=bs) (aN:=aN) k1 (es:=seen P f.fn (if f.kind==CallKind.early then #[]else es1)) aY (dg.go k1.rel (Aw.top (Aw.head.finish VR.undef fun _ o _ n _=>mH n) (dB f _)));simpa only[stepG.apply,if_true,e,e',TD,Bool.false_eq_true,if_false,GStep.after]using t
  | @enter g xs cD hg h=>
    have t:=dg.trans (b:=b) (bs:=bs) (aN:=aN) k1 (es:=seen P f.fn (if f.kind==CallKind.early then #[]else es1)) aY (dg.go k1.rel (FL.cons (kx.enter hc hg h hk.1 hk.2) Aw fun hj g hg=>by cases hg;exact hx hj _ _ _ _ e));simp only[stepG.apply,if_true,e,e',TD,Bool.false_eq_true,if_false,GStep.after];exact t
  | @round l l' g xs cD a1 a2 hl hg h h1 h2 hz=>
    have hn:∀a b,¬H g a b:=(hc.vK g hg).2 (Lp hz);have t:=dg.trans (b:=b) (bs:=bs) (aN:=aN) k1 (es:=seen P f.fn (if f.kind==CallKind.early then #[]else es1)) aY (dg.go k1.rel (FL.cons (kx.Ln hn hl hg h h1 h2) Aw fun hj g hg=>by cases hg;exact hx hj _ _ _ _ e));simpa only[stepG.apply,if_true,e,e',TD,Bool.false_eq_true,if_false,GStep.after,List.cons_append]using t
 .rw[Array.empty_append]at e';have hle:=eD p w.heap.size w'.heap.size c;have aY:∀z∈seen (ac P F) f'.fn fs,Ku N (ext p w.heap.size w'.heap.size c) z:=fun z hz=>k2 z (mem_seen hz);have Aw:=hf.mono hle;have t:=dg.trans (b:=b) (bs:=bs) (aN:=aN) k1 (es:=seen P f.fn (if f.kind==CallKind.early then #[]else es1)) aY (dg.go k1.rel (Aw.top (Aw.head.raise (.cons false false hv .nil)) (iO f _)));simpa only[stepG.apply,if_true,e,e',TD,Bool.false_eq_true,if_false,GStep.after]using t
end
section
variable {P:Program} {F:Array Func} {S:Nat->Bool} {H:FuncId->Code->Code->Prop} {N:Nat} {p:Pi} {w w':World} {b:Frame} {bs:List Frame} {aN:List Frame}
def Pp (P:Program) (S:Nat->Bool) (main':Bool) (aN:List Frame):Prop:=aN=[]->main'=true/\∀f,S f=true->P.inits.idxOf? f=none
theorem dg.doReturn (hw:WR P S (KS P S) N p w w') {top:List Frame} (hf:FL P S H p (f::top) (f'::dm)) (main main':Bool) (hb:Pp P S main' aN) (hv:VR S p v v'):
 dg P S H N p w w' b bs aN (Go.doReturn P main f (top++b::bs) none v w) (Go.doReturn (ac P F) main' f' (dm++aN) none v' w'):=by
 have h1:=hf.head.kind;have h2:=hf.head.kh;have h3:=hf.head.fn;have h4:=hf.head.NK;cases hf with
 |one h r=>
  cases aN with
  |nil=>
   obtain⟨rfl,gz⟩:=hb rfl;have hi:(ac P F).inits.idxOf? f'.fn=none:=by rw[<-h3];exact gz _ h4
   unfold Go.doReturn;simp only[h1,h2,List.nil_append,hi];exact dg.Lo hw hv
  |cons b' vM=>unfold Go.doReturn;rw[h1,h2];exact dg.ret hw hv b' vM
 |cons h t mJ=>
  unfold Go.doReturn;rw[h1,h2];cases t with
  |one h r=>exact dg.go hw (.one (h.finish hv fun hj=>(mJ hj _ rfl).fits _) ⟨(dB _ _).1.trans r.1,by rw[(dB _ _).2];exact r.2⟩)
  |cons h t Hj=>exact dg.go hw (.cons (h.finish hv fun hj=>(mJ hj _ rfl).fits _) t Hj)
def vN:Option Code->Bool
 |none=>true
 |some .ret=>true
 |_=>false
def gU (P:Program) (main:Bool) (fr:Frame) (callers:List Frame) (jump:Option Code) (w:World):GStep:=
 match fr.roundOf with
 |none=>if vN jump then .go {frame:={fr with mode:=.returning},callers,status:=.running,dying:=none} w else .ended (.stuck "exit, goto: no such block or label" (fr.pos P)) w
 |some l=>
  GStep.after (seen P fr.fn ((Instr.endRound l jump).runT P w #[]).2)<|match((Instr.endRound l jump).runT P w #[]).1 with
  |.ok v w=>Go.doReturn P main fr callers none v w
  |.halt _ w=>.ended (.stuck "range over a function: no such loop" (fr.pos P)) w
theorem kQ (main:Bool) (f:Frame) (cs:List Frame) (hk:f.kind=.normal) (v:Value) (w:World):gw (Go.doReturn P main f cs none v w)=w:=by
 unfold Go.doReturn;rw[hk];cases cs with
 |nil=>
  simp only;split
  .rfl
  .split<;>rfl
 |cons c cs=>rfl
theorem iP (main:Bool) (h:f.roundOf=none) (cs:List Frame) (jump:Option Code) (w:World):
 gU P main f cs jump w=if vN jump then .go {frame:={f with mode:=.returning},callers:=cs,status:=.running,dying:=none} w else .ended (.stuck "exit, goto: no such block or label" (f.pos P)) w:=by
 unfold gU;split
 .rfl
 .rename_i h2;rw[h]at h2;cases h2
theorem iQ (main:Bool) {l:Nat} (h:f.roundOf=some l) (cs:List Frame) (jump:Option Code) (w:World):
 gU P main f cs jump w=GStep.after (seen P f.fn ((Instr.endRound l jump).runT P w #[]).2) (match((Instr.endRound l jump).runT P w #[]).1 with
 |.ok v w=>Go.doReturn P main f cs none v w
 |.halt _ w=>.ended (.stuck "range over a function: no such loop" (f.pos P)) w):=by
 unfold gU;split
 .rename_i h2;rw[h]at h2;cases h2
 .rename_i h2;rw[h]at h2;cases h2;rfl
theorem Hk {x y:Option Nat} (h:RR p x y):(x=none/\y=none)\/∃l l',x=some l/\y=some l'/\p l l':=by
 cases h with
 |none=>exact .inl ⟨rfl,rfl⟩
 |some h=>exact .inr ⟨_,_,rfl,rfl,h⟩
theorem dg.leave (hw:WR P S (KS P S) N p w w') {top:List Frame} (hf:FL P S H p (f::top) (f'::dm)) (main main':Bool) (hb:Pp P S main' aN) (jump:Option Code) (hj:∀c,jump=some c->codeOk P S c=true)
 (hm:kj m w w') (hd:(gw (gU (ac P F) main' f' (dm++aN) jump w')).drawn<=w'.drawn+m):
 dg P S H N p w w' b bs aN (gU P main f (top++b::bs) jump w) (gU (ac P F) main' f' (dm++aN) jump w'):=by
 have fF:=hf.head;rcases Hk fF.round with⟨h1,h2⟩|⟨l,l',h1,h2,hl⟩
 .rw[iP main h1,iP main' h2];cases hj:vN jump with
  |true=>exact dg.go hw (hf.top (g:={f with mode:=.returning}) (g':={f' with mode:=.returning}) ⟨fF.fn,fF.NK,fF.tmps,fF.todo,fF.defers,.returning,fF.kind,fF.kh,fF.round,fF.vK,fF.nd,fF.wide,fF.Ll⟩ ⟨rfl,rfl⟩)
  |false=>exact dg.ended ..
 .rw[iQ main' h2]at hd;rw[iQ main h1,iQ main' h2];rw[jv]at hd
  refine dg.run (SR.endRound hl jump hj) hw hm (ev:=fun r es=>seen P f.fn es) (Pn:=fun r es=>seen (ac P F) f'.fn es) (fun r es e he=>mem_seen he)
   (k:=fun r=>match r with|.ok v w=>Go.doReturn P main f (top++b::bs) none v w|.halt _ w=>.ended (.stuck "range over a function: no such loop" (f.pos P)) w)
   (k':=fun r=>match r with|.ok v w=>Go.doReturn (ac P F) main' f' (dm++aN) none v w|.halt _ w=>.ended (.stuck "range over a function: no such loop" (f'.pos (ac P F))) w)
   hd ?_ ?_ ?_ ?_
  .intro r;cases r with
   |ok v w=>simp only;rw[kQ _ _ _ fF.kh];exact Nat.le_refl _
   |halt=>exact Nat.le_refl _
  .intro x w1 _;exact⟨_,_,_,rfl⟩
  .intro c n w1 fR x y qu hv _ _;exact dg.doReturn qu.rel (hf.mono (eD _ _ _ _)) main main' hb hv
  .intro c n w1 fR v v' qu hv;exact dg.ended ..
theorem kx.mk' (h:kx P S H p f f') (hl:TL P S (H f.fn) p l l') {ds mq:List Deferred} (hd:DL p ds mq) (xB:(ds=[]/\mq=[])\/∀a b,¬H f.fn a b) (hr:S JK=true->gL P f.tmps l):kx P S H p {f with todo:=l,defers:=ds} {f' with todo:=l',defers:=mq}:=
 ⟨h.fn,h.NK,h.tmps,hl,hd,h.mode,h.kind,h.kh,h.round,h.vK,xB,h.wide,hr⟩
theorem DL.append {l l' m m':List Deferred} (h:DL p l l') (k:DL p m m'):DL p (l++m) (l'++m'):=by
 induction h with
 |nil=>exact k
 |cons g _ ih=>exact .cons g ih
end
theorem WR.no {P:Program} {S:Nat->Bool} {K:Kz} {N:Nat} {p:Pi} {w w':World} (h:WR P S K N p w w') {a:Prop} (x:p.l=true):a:=by rw[h.str]at x;cases x
section
variable {P:Program} {F:Array Func} {S:Nat->Bool} {H:FuncId->Code->Code->Prop} {N:Nat} {p:Pi} {w w':World} {b:Frame} {bs:List Frame} {aN:List Frame}
theorem dV (main:Bool) (h:f.todo=[]) (cs:List Frame) (w:World):stepG.exec P main true f cs none w=gU P main f cs none w:=by
 obtain⟨fn,tmps,todo,ds,mode,kind,ro⟩:=f;simp only at h;subst h;cases ro<;>rfl
theorem dW (main:Bool) (h:f.todo=.code .ret::k) (cs:List Frame) (w:World):stepG.exec P main true f cs none w=gU P main f cs (some .ret) w:=by
 obtain⟨fn,tmps,todo,ds,mode,kind,ro⟩:=f;simp only at h;subst h;cases ro<;>rfl
theorem dG (main:Bool) (h:f.todo=.code (.exit id)::k) (cs:List Frame) (w:World):
 stepG.exec P main true f cs none w=match exitTo id k with|none=>gU P main f cs (some (.exit id)) w|some t=>.go {frame:={f with todo:=t},callers:=cs,status:=.running,dying:=none} w:=by
 obtain⟨fn,tmps,todo,ds,mode,kind,ro⟩:=f;simp only at h;subst h;cases ro<;>(unfold stepG.exec;dsimp only;cases exitTo id k<;>rfl)
theorem dH (main:Bool) (h:f.todo=.code (.goto id)::k) (cs:List Frame) (w:World):
 stepG.exec P main true f cs none w=match gotoIn id k with|none=>gU P main f cs (some (.goto id)) w|some t=>.go {frame:={f with todo:=t},callers:=cs,status:=.running,dying:=none} w:=by
 obtain⟨fn,tmps,todo,ds,mode,kind,ro⟩:=f;simp only at h;subst h;cases ro<;>(unfold stepG.exec;dsimp only;cases gotoIn id k<;>rfl)
theorem aQ.run {φ:α->Prop}:∀{s:Sem α},aQ P φ s->∀{w w1:World} {es es1:Array Event} {x:α},s.runT P w es=(.ok x w1,es1)->φ x:=by
 intro s;induction s with
 |pure a=>intro g w w1 es es1 x h;simp only[Sem.runT,Prod.mk.injEq,Result.ok.injEq]at h;rw[<-h.1.1];exact g
 |halt y=>intro g w w1 es es1 x h;simp[Sem.runT]at h
 |program k ih=>intro g w w1 es es1 x h;unfold Sem.runT at h;exact ih P g h
 |store m a v k ih=>
  intro g w w1 es es1 x h;cases v<;>unfold Sem.runT at h;all_goals repeat' (split at h)
  all_goals first|exact ih g h|(cases h;done)|(simp at h;done)
 |new o k ih=>intro g w w1 es es1 x h;unfold Sem.runT at h;exact ih _ (g _) h
 |shape r k ih=>intro g w w1 es es1 x h;unfold Sem.runT at h;exact ih _ (g _) h
 |freeze a n k ih=>intro g w w1 es es1 x h;unfold Sem.runT at h;exact ih g h
 |frozen a k ih=>intro g w w1 es es1 x h;unfold Sem.runT at h;exact ih _ (g _) h
 |sys c k ih=>intro g w w1 es es1 x h;unfold Sem.runT at h;exact ih _ (g _) h
 |mark m k ih=>intro g w w1 es es1 x h;unfold Sem.runT at h;exact ih g h
 |_=>
  rename_i ih;intro g w w1 es es1 x h;unfold Sem.runT at h;repeat' (split at h)
  all_goals first
   |exact ih _ (g _) h
   |exact ih g h
   |(simp at h;done)
   |(cases h;done)
theorem aQ.ug (a:Addr):∀(n i:Nat) (acc:Array Value),aQ P (fun cs=>cs.size=acc.size+n) (Go.loadCellsFrom a i n acc)
 |0,i,acc=>rfl
 |n+1,i,acc=>fun v=>by
  have h:=aQ.ug a n (i+1) (acc.push v);refine aQ.mono (fun cs oK=>?_) h;rw[oK,Array.size_push];omega
theorem aQ.loadVar (t:TypeId) (a:Addr):aQ P (fun v=>fA P t=true->rn (rm P t) v) (Go.loadVar t a):=by
 unfold Go.loadVar Go.isAgg;refine aQ.bind (φ:=fun b=>b=fA P t) (fun b hb=>?_) (aQ.ci fun u hu=>?_)
 .subst hb;cases h:fA P t with
  |true=>
   simp only[if_true];refine aQ.bind (fun n hn=>?_) (aQ.sizeOf t);subst hn;refine aQ.bind (fun cs oK=>?_) (aQ.ug a (rm P t) 0 #[]);intro _ xs e;cases e;simpa using oK
  |false=>exact aQ.mono (fun v _ hx=>by cases hx) (aQ.all _)
 .unfold fA;rw[hu];cases u<;>exact rfl
theorem yi {r:Operand->Value} {w:World} {es1:Array Event} {x:Next} (h:(execOp r o).runT P w es=(.ok x w1,es1)) (hf:∀o2,f.oper?=some o2->o2=o):AV P f x:=by
 by_cases hl:Hi o.op=true
 .cases bJ:o.op<;>rw[bJ]at hl<;>first|(cases hl;done)|skip
  rename_i t a
  have key:aQ P (fun x=>∃v,x=.value v/\(fA P t=true->rn (rm P t) v)) (execOp r o):=by
   unfold execOp;simp only[bJ];have hb:∀v,(fA P t=true->rn (rm P t) v)->aQ P (fun x=>∃v,x=Next.value v/\(fA P t=true->rn (rm P t) v)) ((fun v=>(Pure.pure (Next.value v):Sem Next)) v):=fun v hv=>⟨v,rfl,hv⟩
   refine aQ.bind (φ:=fun v=>fA P t=true->rn (rm P t) v) hb ?_;unfold Instr.loadAt;exact aQ.Tm fun b=>aQ.loadVar t b
  obtain⟨v,rfl,hv⟩:=key.run h;intro o2 vJ n hn;rw[hf o2 vJ,bJ]at hn;simp only[Di]at hn;split at hn
  .rename_i ha;cases hn;exact hv ha
  .cases hn
 .have gT:jR f:=fun o2 vJ=>by rw[hf o2 vJ];simpa using hl
  cases x<;>first|exact gT.fits _|exact gT|trivial
theorem dg.exec (hc:Closed P F S H) (hw:WR P S (KS P S) N p w w') (hg:iv P S p) {top:List Frame} (hf:FL P S H p (f::top) (f'::dm)) (YE:∀c c' k k',f.todo=.code c::k->f'.todo=.code c'::k'->¬H f.fn c c') (gT:f'.mode=.run->¬kO S f') (lZ:f'.mode=.run) (main main':Bool) (hb:Pp P S main' aN)
 (hm:kj m w w') (hd:(gw (stepG.exec (ac P F) main' true f' (dm++aN) none w')).drawn<=w'.drawn+m):
 dg P S H N p w w' b bs aN (stepG.exec P main true f (top++b::bs) none w) (stepG.exec (ac P F) main' true f' (dm++aN) none w'):=by
 have fF:=hf.head
 have xC:∀{l l':List Item},TL P S (H f.fn) p l l'->(S JK=true->gL P f.tmps l)->dg P S H N p w w' b bs aN (.go {frame:={f with todo:=l},callers:=top++b::bs,status:=.running,dying:=none} w) (.go {frame:={f' with todo:=l'},callers:=dm++aN,status:=.running,dying:=none} w'):=
  fun h hr=>dg.go hw (hf.top (fF.AS h hr) ⟨rfl,rfl⟩)
 have Pq:=fF.Ll;have ht:=fF.todo;have aY:=fF.eval hg;generalize h1:f.todo=t at ht;generalize h2:f'.todo=t' at ht;cases ht with
 |nil=>
  rw[dV main' h2]at hd;rw[dV main h1,dV main' h2];exact dg.leave hw hf main main' hb none (fun c h=>by cases h) hm hd
 | @cons i i' k k' hi ht=>
   rw[h1]at Pq;have yj:S JK=true->∀x∈k,gK x=true:=fun hj=>(Pq hj).1;have r0:S JK=true->gL P f.tmps k:=fun hj=>gL.no (yj hj);have r1:∀{a:Item},gK a=true->S JK=true->gL P f.tmps (a::k):=fun ha hj=>gL.put (yj hj) ha;have r2:∀{a c:Item},gK a=true->gK c=true->S JK=true->gL P f.tmps (a::c::k):=fun ha hc hj=>gL.YB (yj hj) ha hc;cases hi with
   | @code c c' NM=>
     cases NM with
     |hole hh=>exact absurd hh (YE _ _ _ _ h1 h2)
     |seq ha hb=>unfold stepG.exec;simp only[h1,h2];exact xC (.cons (.code ha) (.cons (.code hb) ht)) (r2 rfl rfl)
     |block id ha=>unfold stepG.exec;simp only[h1,h2];exact xC (.cons (.code ha) (.cons (.inBlock id) ht)) (r2 rfl rfl)
     |loop ha=>unfold stepG.exec;simp only[h1,h2];exact xC (.cons (.code ha) (.cons (.inLoop ha) ht)) (r2 rfl rfl)
     |refuse why c2 hr=>unfold stepG.exec;simp only[h1];exact dg.ended ..
     | @cond x a a' c c' hx ha hb=>
       have hx:=aY.at hx;unfold stepG.exec;simp only[h1,h2];revert hx;generalize f.eval x=v;generalize f'.eval x=v';intro hx;cases hx<;>first|exact dg.ended .. |skip
       rename_i bo;refine xC (.cons (.code ?_) ht) (r1 rfl);cases bo
       .exact hb
       .exact ha
     |same fw GJ=>
      cases c with
      |ret=>
       rw[dW main' h2]at hd;rw[dW main h1,dW main' h2];exact dg.leave hw hf main main' hb (some .ret) (fun c h=>by cases h;rfl) hm hd
      |exit id=>
       rw[dG main' h2]at hd;rw[dG main h1,dG main' h2];rcases AT id ht with⟨e1,e2⟩|⟨j,j',e1,e2,hj⟩
       .rw[e2]at hd;rw[e1,e2];exact dg.leave hw hf main main' hb (some (.exit id)) (fun c h=>by cases h;rfl) hm hd
       .rw[e1,e2];exact xC hj fun qM=>gL.no (EO id (yj qM) e1)
      |goto id=>
       rw[dH main' h2]at hd;rw[dH main h1,dH main' h2];rcases AU id ht with⟨e1,e2⟩|⟨j,j',e1,e2,hj⟩
       .rw[e2]at hd;rw[e1,e2];exact dg.leave hw hf main main' hb (some (.goto id)) (fun c h=>by cases h;rfl) hm hd
       .rw[e1,e2];exact xC hj fun qM=>gL.no (EP id (yj qM) e1)
      |skip=>
       unfold stepG.exec;simp only[h1,h2];exact xC ht r0
      |label l=>
       unfold stepG.exec;simp only[h1,h2];exact xC ht r0
      |seq a c=>
       simp only[codeOk,cP,Bool.and_eq_true]at fw GJ;unfold stepG.exec;simp only[h1,h2];exact xC (.cons (.code (.same fw.1 (GJ.imp And.left fun x=>x))) (.cons (.code (.same fw.2 (GJ.imp And.right fun x=>x))) ht)) (r2 rfl rfl)
      |cond x a c=>
       simp only[codeOk,cP,Bool.and_eq_true]at fw GJ;have hx:=aY.at fw.1.1;unfold stepG.exec;simp only[h1,h2];revert hx;generalize f.eval x=v;generalize f'.eval x=v';intro hx;cases hx<;>first|exact dg.ended .. |skip
       rename_i bo;refine xC (.cons (.code ?_) ht) (r1 rfl);cases bo
       .exact .same fw.2 (GJ.imp And.right fun x=>x)
       .exact .same fw.1.2 (GJ.imp And.left fun x=>x)
      |block id c=>
       unfold stepG.exec;simp only[h1,h2];exact xC (.cons (.code (.same fw GJ)) (.cons (.inBlock id) ht)) (r2 rfl rfl)
      |loop c=>
       unfold stepG.exec;simp only[h1,h2];exact xC (.cons (.code (.same fw GJ)) (.cons (.inLoop (.same fw GJ)) ht)) (r2 rfl rfl)
      |scope c=>
       unfold stepG.exec;simp only[h1,h2];exact xC (.cons (.code (.same fw GJ)) (.cons (.inScope fw GJ) ht)) (r2 rfl rfl)
      |refuse why=>unfold stepG.exec;simp only[h1,h2];exact dg.ended ..
      |region id ops draw=>
       simp only[codeOk,Bool.and_eq_true]at fw;have ru:∀o∈ops,(nE P S o.op||fE S o.op)=true:=fun o ho=>(Array.all_eq_true_iff_forall_mem.1 fw.1) o ho
       have hsk:S JK=true->yd P ops=true->draw=false/\Lk P ops=true:=fun hj hh=>by
        have h3:=fw.2;rw[hj,hh]at h3;simpa using h3
       unfold stepG.exec at hd⊢;simp only[h1,h2]at hd⊢;cases draw with
       |false=>exact xC (.cons (.inRegion _ ru) ht) fun hj=>⟨yj hj,fun YF is2 e=>by cases e;exact fun hh=>KR.start (S:=S) (hsk hj hh).2 hh⟩
       |true=>
        simp only[Bool.not_true,Bool.false_eq_true,if_false,choose,Sem.run,Question.forced,Question.cut]at hd⊢
        have EF:0<m:=by
         simp only[gw]at hd;omega
        have ht0:=hm 0 EF (.order f'.fn id);simp only[Nat.add_zero]at ht0;have ht1:w.tape w.drawn (.order f.fn id)=w'.tape w'.drawn (.order f'.fn id):=by rw[fF.fn];exact ht0
        rw[ht1];have jK:WR P S (KS P S) N p {w with drawn:=w.drawn+1} {w' with drawn:=w'.drawn+1}:=⟨hw.inj,hw.blk,hw.low,hw.fix,hw.fC,hw.jq,hw.str,hw.tw⟩
        have Da:cq P S (KS P S) N p w w' 0 1 {w with drawn:=w.drawn+1} {w' with drawn:=w'.drawn+1}:=
         ⟨by rw[bz];exact jK,rfl,rfl,rfl,rfl,rfl,rfl,rfl,rfl,fun _ _ _=>rfl⟩
        refine .inr (.inr ⟨0,1,_,_,#[],#[],Da,by simp,.inl ⟨_,_,top,dm,?_,rfl,rfl⟩⟩);rw[bz];exact hf.top (fF.AS (.cons (.inRegion _ ru) ht) fun hj=>⟨yj hj,fun YF is2 e=>by cases e;exact fun hh=>by have:=(hsk hj hh).1;cases this⟩) ⟨rfl,rfl⟩
      |rangeFunc x ps a c=>
       simp only[codeOk,Bool.and_eq_true]at fw;unfold stepG.exec at hd⊢;simp only[h1,h2]at hd⊢;rw[jv]at hd;have gT:∀a b,¬H f.fn a b:=GJ.resolve_left (by simp[cP]);have hz:KS P S (.label (100000+f.fn)):=Lq ((hc.vK f.fn fF.NK).1 gT)
       refine dg.run (SR.enterLoop fF.fn fF.NK hz fF.tmps ps fw.1.2 fw.2 fF.round) hw hm (ev:=fun r es=>seen P f.fn es) (Pn:=fun r es=>seen (ac P F) f'.fn es) (fun r es e he=>mem_seen he)
        (k:=fun r=>match r with
          |.ok (l,mark) w=>stepG.apply P true {f with todo:=.inRangeFunc l::k,defers:=mark++f.defers} (top++b::bs) none
             (do let d<-resolve (Frame.eval {f with todo:=.inRangeFunc l::k,defers:=mark++f.defers}) {callee:=.value x,args:=#[.const (.func (.yield l) #[] #[])],argTypes:=#[]} 0;invoke d.target d.args) w
          |.halt _ w=>.ended (.stuck "range over a function: no such loop" (f.pos P)) w)
        (k':=fun r=>match r with
          |.ok (l,mark) w=>stepG.apply (ac P F) true {f' with todo:=.inRangeFunc l::k',defers:=mark++f'.defers} (dm++aN) none
             (do let d<-resolve (Frame.eval {f' with todo:=.inRangeFunc l::k',defers:=mark++f'.defers}) {callee:=.value x,args:=#[.const (.func (.yield l) #[] #[])],argTypes:=#[]} 0;invoke d.target d.args) w
          |.halt _ w=>.ended (.stuck "range over a function: no such loop" (f'.pos (ac P F))) w)
        ?_ ?_ ?_ ?_ ?_
       .exact hd
       .intro r;cases r with
        |ok x w1=>exact Nat.le_trans (mD (ac P F) _ w1 #[]) (pH ..)
        |halt=>exact Nat.le_refl _
       .intro x w1 _;exact⟨_,_,_,rfl⟩
       .intro cc n w1 fR y y' qu hy Da ES;obtain⟨l,mark⟩:=y;obtain⟨l',rz⟩:=y';have hle:=eD p w.heap.size w'.heap.size cc;have TE:=(fF.mono hle).mk' (.cons (.nG hy.1 gT) (ht.mono hle)) (hy.2.append (fF.defers.mono hle)) (.inr gT) (r1 rfl);refine dg.apply hc qu.rel ((hf.mono hle).top TE ⟨rfl,rfl⟩) Da ?_ ES fun _ _ x _ _ _=>AV.no rfl x;refine SR.kM hc.mI ?_ ?_
        .exact(TE.eval (hg.mono hle)).at fw.1.1
        .have:=AR.one (S:=S) (VR.yield (S:=S) hy.1);simpa [Frame.eval]using this
       .intro cc n w1 fR v v' qu hv;exact dg.ended ..
   | @inBlock id=>unfold stepG.exec;simp only[h1,h2];exact xC ht r0
   | @inScope c fw _=>unfold stepG.exec;simp only[h1,h2];exact xC ht r0
   | @inLoop c c' NM=>unfold stepG.exec;simp only[h1,h2];exact xC (.cons (.code NM) (.cons (.inLoop NM) ht)) (r2 rfl rfl)
   | @nG l l' hl _=>unfold stepG.exec;simp only[h1,h2];exact dg.ended ..
   | @begin=>
     unfold stepG.exec at hd⊢;simp only[h1,h2]at hd⊢;refine dg.apply hc hw hf hm ?_ hd fun _ _ x _ _ _=>AV.no (by unfold Frame.oper?;rw[h1]) x;rcases Hk fF.round with⟨e1,e2⟩|⟨l,l',e1,e2,hl⟩
     .rw[e1,e2];exact(SR.stuck (α:=Unit) (β:=Unit) (Q:=QE Unit)).av fun q _ hq=>SR.pure .skip
     .rw[e1,e2];exact(SR.beginRound hl).av fun q _ hq=>SR.pure .skip
   | @ju l l' hl gT=>
     unfold stepG.exec at hd⊢;simp only[h1,h2]at hd⊢;rw[jv]at hd
     refine dg.run (SR.endLoop hl) hw hm (ev:=fun r es=>seen P f.fn es) (Pn:=fun r es=>seen (ac P F) f'.fn es) (fun r es e he=>mem_seen he)
      (k:=fun r=>match r with
        |.ok jump w=>.go {frame:={f with todo:=(jump.map Item.code).toList++k},callers:=top++b::bs,status:=.running,dying:=none} w
        |.halt (.panic v) w=>.go {frame:=f.raise [{v,recovered:=false}],callers:=top++b::bs,status:=.running,dying:=none} w
        |.halt _ w=>.ended (.stuck "range over a function: no such loop" (f.pos P)) w)
      (k':=fun r=>match r with
        |.ok jump w=>.go {frame:={f' with todo:=(jump.map Item.code).toList++k'},callers:=dm++aN,status:=.running,dying:=none} w
        |.halt (.panic v) w=>.go {frame:=f'.raise [{v,recovered:=false}],callers:=dm++aN,status:=.running,dying:=none} w
        |.halt _ w=>.ended (.stuck "range over a function: no such loop" (f'.pos (ac P F))) w)
      hd ?_ ?_ ?_ ?_
     .intro r;cases r with
      |ok x w1=>exact Nat.le_refl _
      |halt x w1=>cases x<;>exact Nat.le_refl _
     .intro x w1 hx;cases x<;>first|exact⟨_,_,_,rfl⟩|exact absurd hx id
     .intro cc n w1 fR y y' qu hy Da ES;have hle:=eD p w.heap.size w'.heap.size cc;obtain⟨rfl,hy⟩:=hy;refine dg.go qu.rel ((hf.mono hle).top ((fF.mono hle).AS ?_ fun hj=>gL.no fun x hx=>?_) ⟨rfl,rfl⟩)
      .cases y with
       |none=>exact ht.mono hle
       |some c=>exact .cons (.code (.same (hy c rfl) (.inr gT))) (ht.mono hle)
      .rcases List.mem_append.1 hx with hx|hx
       .cases y with
        |none=>cases hx
        |some c=>simp at hx;subst hx;rfl
       .exact yj hj x hx
     .intro cc n w1 fR v v' qu hv;have hle:=eD p w.heap.size w'.heap.size cc;exact dg.go qu.rel ((hf.mono hle).top ((fF.mono hle).raise (.cons false false hv .nil)) (iO f _))
   | @inRegion ops is ru=>
     cases is with
     |nil=>unfold stepG.exec;simp only[h1,h2];exact xC ht r0
     |cons i is=>
      unfold stepG.exec at hd⊢;simp only[h1,h2]at hd⊢;have hy:∀j,yielded ops f'.tmps j=yielded ops f.tmps j:=fun j=>(pG ops fF.tmps j).symm;have hyy:(yielded ops f'.tmps)=(yielded ops f.tmps):=funext hy;rw[hyy]at hd⊢;split at hd
      .rename_i kR;rw[if_pos kR,if_pos kR];have GK:f.oper?=ops[i]?:=by unfold Frame.oper?;rw[h1]
       have vJ:f'.oper?=ops[i]?:=by unfold Frame.oper?;rw[h2]
       unfold stepG.oper at hd⊢;rw[GK,vJ];rw[vJ]at hd;cases ho:ops[i]? with
       |none=>exact dg.ended ..
       |some o=>
        rw[ho]at hd
        have Pr:nE P S o.op=true:=by
         have h0:=ru o (Array.mem_of_getElem? ho);rw[Bool.or_eq_true]at h0;refine h0.resolve_right fun h3=>gT lZ ⟨lZ,o,ops,i,is,_,h2,ho,h3,?_⟩;rw[hyy];rw[ho]at kR;simpa using kR
        have xB:∀c,o.op≠ .defer c:=by
         intro c GL;rw[GL]at Pr;simp[nE]at Pr
        have key:∀(P:Program) (fr:Frame) (cs:List Frame) (w:World),(match fr.roundOf,o.op with
         |some l,.defer c=>stepG.apply P true fr cs none (do Instr.deferInRound l (<-resolve fr.eval c o.type);pure .skip) w
         |_,_=>stepG.apply P true fr cs none (execOp fr.eval o) w)=stepG.apply P true fr cs none (execOp fr.eval o) w:=by
         intro P fr cs w;split
         .rename_i hx;exact absurd hx (xB _)
         .rfl
        have Tp:(gw (stepG.apply (ac P F) true f' (dm++aN) none (execOp f'.eval o) w')).drawn<=w'.drawn+m:=by
         rw[<-key (ac P F) f' (dm++aN) w'];exact hd
        have e1:=key P f (top++b::bs) w;have e2:=key (ac P F) f' (dm++aN) w';refine Eq.mpr (congr (congrArg (dg P S H N p w w' b bs aN) e1) e2) ?_;exact dg.apply hc hw hf hm (SR.execOp hw.no hc.ib hc.dA hc.mI aY o Pr hw.no hw.no fun hj=>KR.fits ((Pq hj).2 _ _ rfl) ho fun s=>rfl) Tp fun hj es x w1 es1 he=>yi he fun o2 vJ=>by rw[GK,ho]at vJ;exact(Option.some.inj vJ).symm
      .rename_i kR;rw[if_neg kR,if_neg kR];exact dg.go hw (hf.top (fF.finish VR.undef fun _ o _ n _=>mH n) (dB f _))
end
section
variable {P:Program} {F:Array Func} {S:Nat->Bool} {H:FuncId->Code->Code->Prop} {N:Nat} {p:Pi} {w w':World} {b:Frame} {bs:List Frame} {aN:List Frame}
theorem nI {H:Code->Code->Prop} (h:TL P S H p l l'):∀d x r s k,l≠ .call d x r s::k/\l'≠ .call d x r s::k:=by
 intro d x r s k;cases h with
 |nil=>exact⟨by simp,by simp⟩
 |cons hi ht=>cases hi<;>exact⟨by simp,by simp⟩
theorem mK (h:∀d x r s k,f.todo≠ .call d x r s::k):f.catches P=false:=by
 unfold Frame.catches;split
 .rename_i hh;exact absurd hh (h _ _ _ _ _)
 .rfl
theorem dg.unwind (hc:Closed P F S H) (hw:WR P S (KS P S) N p w w') {top:List Frame} (hf:FL P S H p (f::top) (f'::dm)) (main main':Bool) (hb:Pp P S main' aN)
 (hm:kj m w w') (hd:(gw (Go.unwind (ac P F) main' f' (dm++aN) none w')).drawn<=w'.drawn+m):
 dg P S H N p w w' b bs aN (Go.unwind P main f (top++b::bs) none w) (Go.unwind (ac P F) main' f' (dm++aN) none w'):=by
 have fF:=hf.head;have GM:=fF.defers;generalize h1:f.defers=t at GM;generalize h2:f'.defers=t' at GM;unfold Go.unwind at hd⊢;rw[h1,h2];rw[h2]at hd;cases GM with
 | @cons r r' l l' hr hl=>
   simp only[jv]at hd⊢
   refine dg.run (SR.takeDeferred hr) hw hm (ev:=fun r es=>seen P f.fn es) (Pn:=fun r es=>seen (ac P F) f'.fn es) (fun r es e he=>mem_seen he)
    (k:=fun r=>match r with|.ok calls w=>.go {frame:={f with defers:=calls++l},callers:=top++b::bs,status:=.running,dying:=none} w|.halt _ w=>.ended (.stuck "the deferred calls of a range-over-func loop have been taken" (f.pos P)) w)
    (k':=fun r=>match r with|.ok calls w=>.go {frame:={f' with defers:=calls++l'},callers:=dm++aN,status:=.running,dying:=none} w|.halt _ w=>.ended (.stuck "the deferred calls of a range-over-func loop have been taken" (f'.pos (ac P F))) w)
    hd ?_ ?_ ?_ ?_
   .intro r;cases r<;>exact Nat.le_refl _
   .intro x w1 _;exact⟨_,_,_,rfl⟩
   .intro c n w1 fR y y' qu hy _ _;obtain⟨rfl,rfl⟩:=hy;have hle:=eD p w.heap.size w'.heap.size c;exact dg.go qu.rel ((hf.mono hle).top ((fF.mono hle).mk' (fF.todo.mono hle) (hl.mono hle) (.inr (fF.nd.resolve_left fun x=>by rw[h1]at x;cases x.1)) fF.Ll) ⟨rfl,rfl⟩)
   .intro c n w1 fR v v' qu hv;exact dg.ended ..
 |nil=>
  simp only at hd⊢;have lZ:=fF.mode;generalize g1:f.mode=o at lZ;generalize g2:f'.mode=o' at lZ;rw[g2]at hd;cases lZ with
  |run=>exact dg.ended ..
  | @panicking l l' hl=>
    simp only;have n1:=mK (P:=P) (f:=f) fun d x r s k=>(nI fF.todo d x r s k).1;have n2:=mK (P:=ac P F) (f:=f') fun d x r s k=>(nI fF.todo d x r s k).2;simp only[n1,n2,Bool.false_eq_true,if_false];cases hf with
    |one h r=>exact dg.raised hl ..
    |cons h t mJ=>
     cases t with
     |one h r=>exact dg.go hw (.one (h.raise hl) ⟨(iO _ _).1.trans r.1,by rw[(iO _ _).2];exact r.2⟩)
     |cons h t Hj=>exact dg.go hw (.cons (h.raise hl) t Hj)
  |returning=>
   simp only at hd⊢;rw[<-fF.fn]at hd⊢;rcases hc.body f.fn fF.NK with⟨e1,e2⟩|⟨fn,kE,_,_,e1,e2,_,_,_,_,_,_,e3⟩
   .rw[e1,e2];exact dg.doReturn hw hf main main' hb (fF.tmps.getD 0 VR.undef)
   .rw[e1,e2];rw[e2]at hd;simp only[jv]at hd⊢
    refine dg.run (SR.results e3 fF.tmps) hw hm (ev:=fun r es=>seen P f.fn es) (Pn:=fun r es=>seen (ac P F) f.fn es) (fun r es e he=>mem_seen he)
     (k:=fun r=>match r with|.ok v w=>Go.doReturn P main f (top++b::bs) none v w|.halt (.stuck s) w=>.ended (.stuck s (f.pos P)) w|.halt _ w=>.ended (.stuck "return: the result variables cannot be read" (f.pos P)) w)
     (k':=fun r=>match r with|.ok v w=>Go.doReturn (ac P F) main' f' (dm++aN) none v w|.halt (.stuck s) w=>.ended (.stuck s (f'.pos (ac P F))) w|.halt _ w=>.ended (.stuck "return: the result variables cannot be read" (f'.pos (ac P F))) w)
     hd ?_ ?_ ?_ ?_
    .intro r;cases r with
     |ok v w=>simp only;rw[kQ _ _ _ fF.kh];exact Nat.le_refl _
     |halt x=>cases x<;>exact Nat.le_refl _
    .intro x w1 hx;cases x<;>exact⟨_,_,_,rfl⟩
    .intro c n w1 fR x y qu hv _ _;exact dg.doReturn qu.rel (hf.mono (eD _ _ _ _)) main main' hb hv
    .intro c n w1 fR v v' qu hv;exact dg.ended ..
theorem dg.step (hc:Closed P F S H) (hw:WR P S (KS P S) N p w w') (hg:iv P S p) {top:List Frame} (hf:FL P S H p (f::top) (f'::dm)) (YE:∀c c' k k',f.mode=.run->f.todo=.code c::k->f'.todo=.code c'::k'->¬H f.fn c c') (gT:¬kO S f') (main main':Bool) (hb:Pp P S main' aN)
 (hm:kj m w w') (hd:(gw (stepG (ac P F) main' {frame:=f',callers:=dm++aN,status:=.running,dying:=none} w')).drawn<=w'.drawn+m):
 dg P S H N p w w' b bs aN (stepG P main {frame:=f,callers:=top++b::bs,status:=.running,dying:=none} w)
  (stepG (ac P F) main' {frame:=f',callers:=dm++aN,status:=.running,dying:=none} w'):=by
 have lZ:=hf.head.mode
 have aX:∀(P:Program) (main:Bool) (f:Frame) (cs:List Frame) (w:World),f.mode=.run->stepG P main {frame:=f,callers:=cs,status:=.running,dying:=none} w=stepG.exec P main true f cs none w:=by
  intro P main f cs w h;unfold stepG;simp only[h]
 have YG:∀(P:Program) (main:Bool) (f:Frame) (cs:List Frame) (w:World),f.mode≠ .run->stepG P main {frame:=f,callers:=cs,status:=.running,dying:=none} w=Go.unwind P main f cs none w:=by
  intro P main f cs w h;unfold stepG;simp only
 by_cases h:f.mode=.run
 .have h':f'.mode=.run:=by
   rw[h]at lZ;generalize f'.mode=o at lZ;cases lZ;rfl
  rw[aX _ _ _ _ _ h']at hd;rw[aX _ _ _ _ _ h,aX _ _ _ _ _ h'];exact dg.exec hc hw hg hf (fun c c' k k'=>YE c c' k k' h) (fun _=>gT) h' main main' hb hm hd
 .have h':f'.mode≠ .run:=by
   intro e;rw[e]at lZ;generalize hx:f.mode=o at lZ;cases lZ;exact h hx
  rw[YG _ _ _ _ _ h']at hd;rw[YG _ _ _ _ _ h,YG _ _ _ _ _ h'];exact dg.unwind hc hw hf main main' hb hm hd
end
def new (w w1:World):Nat->Prop:=fun r=>w.heap.size<=r/\r<w1.heap.size
def aE (kn:Nat->Prop) (w w1:World):Nat->Prop:=fun r=>kn r\/new w w1 r
structure Env (kn:Nat->Prop) (w w2:World):Prop where
 size:w.heap.size<=w2.heap.size
 same:∀r,kn r->w2.heap[r]?=w.heap[r]?
 os:w2.os=w.os
 out:w2.output=w.output
theorem Env.refl (kn:Nat->Prop) (w:World):Env kn w w:=⟨Nat.le_refl _,fun _ _=>rfl,rfl,rfl⟩
theorem Env.trans {w:World} (h:Env kn w w1) (k:Env kn w1 w2):Env kn w w2:=
 ⟨Nat.le_trans h.1 k.1,fun r hr=>(k.2 r hr).trans (h.2 r hr),k.os.trans h.os,k.out.trans h.out⟩
def Dk (kn own:Nat->Prop) (e:Event):Prop:=
 e=noRoomEvent\/(e.sync=false/\∃r,kn r/\((∃a:Addr,e.loc=.cell a/\a.block=r)\/e.loc=.obj r)/\(e.write=true->own r))
structure Fair (kn own:Nat->Prop) (w w1:World) (es:Array Event):Prop where
 size:w.heap.size<=w1.heap.size
 others:∀r,r<w.heap.size->¬own r->w1.heap[r]?=w.heap[r]?
 os:w1.os=w.os
 out:w1.output=w.output
 tape:w1.tape=w.tape
 drawn:w.drawn<=w1.drawn
 ev:∀e∈es,Dk (aE kn w w1) (aE own w w1) e
abbrev ij (f:Frame) (cs:List Frame):Goroutine:={frame:=f,callers:=cs,status:=.running,dying:=none}
abbrev nJ:=(Nat->Prop)->(Nat->Prop)->Value->World->Prop
abbrev ky:=(Nat->Prop)->(Nat->Prop)->Frame->World->Prop
abbrev dC:=(Nat->Prop)->(Nat->Prop)->Frame->World->Value->World->(Nat->Prop)->(Nat->Prop)->Prop
abbrev Sx:=(Nat->Prop)->(Nat->Prop)->Frame->List Frame->World->Prop
def Body (Q:Program) (main:Bool) (base:List Frame) (Fin:nJ) (HA:ky) (HP:dC) (I:Sx):Sx:=fun kn own f top w=>
 ∀w2,Env kn w w2->
  (∃w3 es f2 nK,stepG Q main (ij f (top++base)) w2=.go (ij f2 (nK++base)) w3 es/\Fair kn own w2 w3 es/\I (aE kn w2 w3) (aE own w2 w3) f2 nK w3)\/
  (∃w3 es v b bs,base=b::bs/\stepG Q main (ij f (top++base)) w2=.go (ij (b.finish v) bs) w3 es/\Fair kn own w2 w3 es/\Fin (aE kn w2 w3) (aE own w2 w3) v w3)\/
  (∃w3 es v,base=[]/\stepG Q main (ij f (top++base)) w2=.ended (.done v) w3 es/\Fair kn own w2 w3 es/\Fin (aE kn w2 w3) (aE own w2 w3) v w3)\/
  (HA kn own f w2/\∃c rest,top=c::rest/\∀v w3 ei bq,HP kn own f w2 v w3 ei bq->I ei bq (c.finish v) rest w3)
def CT (Q:Program) (main:Bool) (base:List Frame) (Fin:nJ) (HA:ky) (HP:dC):Sx:=fun kn own f top w=>
 ∀I:Sx,(∀kn own f top w,Body Q main base Fin HA HP I kn own f top w->I kn own f top w)->I kn own f top w
section
variable {Q:Program} {main:Bool} {base:List Frame} {Fin:nJ} {HA:ky} {HP:dC}
theorem Body.mono {I J:Sx} (h:∀kn own f top w,I kn own f top w->J kn own f top w) {top:List Frame} {w:World} (x:Body Q main base Fin HA HP I kn own f top w):Body Q main base Fin HA HP J kn own f top w:=by
 intro w2 he;rcases x w2 he with⟨w3,es,f2,nK,h1,h2,h3⟩|x|x|⟨h1,c,rest,hc,h2⟩
 .exact .inl ⟨w3,es,f2,nK,h1,h2,h _ _ _ _ _ h3⟩
 .exact .inr (.inl x)
 .exact .inr (.inr (.inl x))
 .exact .inr (.inr (.inr ⟨h1,c,rest,hc,fun v w3 ei bq hp=>h _ _ _ _ _ (h2 v w3 ei bq hp)⟩))
theorem CT.mk {kn own:Nat->Prop} {f:Frame} {top:List Frame} {w:World} (h:Body Q main base Fin HA HP (CT Q main base Fin HA HP) kn own f top w):CT Q main base Fin HA HP kn own f top w:=
 fun I hI=>hI _ _ _ _ _ (h.mono fun _ _ _ _ _ x=>x I hI)
theorem CT.ind {I:Sx} (hI:∀kn own f top w,Body Q main base Fin HA HP (fun kn own f top w=>I kn own f top w/\CT Q main base Fin HA HP kn own f top w) kn own f top w->I kn own f top w)
 {top:List Frame} {w:World} (h:CT Q main base Fin HA HP kn own f top w):I kn own f top w:=
 (h (fun kn own f top w=>I kn own f top w/\CT Q main base Fin HA HP kn own f top w) fun _ _ _ _ _ x=>⟨hI _ _ _ _ _ x,CT.mk (x.mono fun _ _ _ _ _ y=>y.2)⟩).1
end
def jw (p:Pi):Nat->Prop:=fun r'=>∃r,p r r'
def bP (N:Nat) (p:Pi):Nat->Prop:=fun r'=>∃r,p r r'/\N<=r
theorem Lr (p:Pi) (L C c:Nat):jw (ext p L C c)=fun r'=>jw p r'\/(C<=r'/\r'<C+c):=by
 funext r';apply propext;constructor
 .rintro⟨r,h|⟨k,hk,h1,h2⟩⟩
  .exact .inl ⟨r,h⟩
  .exact .inr ⟨by omega,by omega⟩
 .rintro(⟨r,h⟩|⟨h1,h2⟩)
  .exact⟨r,.inl h⟩
  .exact⟨L+(r'-C),.inr ⟨r'-C,by omega,rfl,by omega⟩⟩
theorem ET {N:Nat} (p:Pi) {L:Nat} (hN:N<=L) (C c:Nat):bP N (ext p L C c)=fun r'=>bP N p r'\/(C<=r'/\r'<C+c):=by
 funext r';apply propext;constructor
 .rintro⟨r,h|⟨k,hk,h1,h2⟩,hr⟩
  .exact .inl ⟨r,h,hr⟩
  .exact .inr ⟨by omega,by omega⟩
 .rintro(⟨r,h,hr⟩|⟨h1,h2⟩)
  .exact⟨r,.inl h,hr⟩
  .exact⟨L+(r'-C),.inr ⟨r'-C,by omega,rfl,by omega⟩,by omega⟩
section
variable {P:Program} {S:Nat->Bool} {N:Nat} {p:Pi}
theorem WR.env {w:World} (h:WR P S (KS P S) N p lw w) (he:Env (jw p) w w2):WR P S (KS P S) N p lw w2:=
 ⟨h.inj,fun r r' hr=>by
   obtain⟨o,o',h1,h2,h3⟩:=h.blk r r' hr;exact⟨o,o',h1,(he.2 r' ⟨r,hr⟩).trans h2,h3⟩,h.low,h.fix,h.fC,Nat.le_trans h.jq he.1,h.str,h.tw⟩
theorem WR.tape {w:World} (h:WR P S (KS P S) N p lw w) (T:Nat->Question->Nat) (d:Nat):WR P S (KS P S) N p {lw with tape:=T,drawn:=d} w:=
 ⟨h.inj,h.blk,h.low,h.fix,h.fC,h.jq,h.str,h.tw⟩
theorem cq.fair {w WQ:World} (hw:WR P S (KS P S) N p lw w) (h:cq P S (KS P S) N p lw w c n WQ w1) (he:∀e∈es,Ku N (ext p lw.heap.size w.heap.size c) e):
 Fair (jw p) (bP N p) w w1 es/\jw (ext p lw.heap.size w.heap.size c)=aE (jw p) w w1/\bP N (ext p lw.heap.size w.heap.size c)=aE (bP N p) w w1:=by
 have e1:jw (ext p lw.heap.size w.heap.size c)=aE (jw p) w w1:=by
  rw[Lr];unfold aE new;rw[h.kG]
 have e2:bP N (ext p lw.heap.size w.heap.size c)=aE (bP N p) w w1:=by
  rw[ET p hw.low];unfold aE new;rw[h.kG]
 refine⟨⟨by rw[h.kG];omega,fun r hr hn=>h.others r hr fun s hs=>?_,h.Yj,h.O7,h.C9,by rw[h.kH];omega,fun e hx=>?_⟩,e1,e2⟩
 .rcases Nat.lt_or_ge s N with ar|xV
  .exact ar
  .exact absurd ⟨s,hs,xV⟩ hn
 .rw[<-e1,<-e2];rcases he e hx with h0|⟨h1,r,r',h2,h3,h4⟩
  .exact .inl h0
  .exact .inr ⟨h1,r',⟨r,h2⟩,h3,fun yl=>⟨r,h2,h4 yl⟩⟩
end
def Base (P:Program):Frame:={fn:=P.funcs.size,tmps:=#[],todo:=[.extern "" #[],.code (.refuse "")],defers:=[⟨.nil,#[]⟩],mode:=.run,kind:=.normal}
theorem dx (P:Program) (v:Value):(Base P).finish v={fn:=P.funcs.size,tmps:=#[v],todo:=[.code (.refuse "")],defers:=[⟨.nil,#[]⟩],mode:=.run,kind:=.normal}:=rfl
theorem fT (P:Program) (v:Value) (w:World):∃o w1,step P (lone ((Base P).finish v) [] w)=.ended o w1:=⟨_,_,step_lone_ended (by rw[dx];rfl)⟩
theorem eN (P:Program) (ch:List PanicEntry) (w:World):∃o w1,step P (lone ((Base P).raise ch) [] w)=.ended o w1:=⟨_,_,step_lone_ended (by rfl)⟩
theorem eH {cs ds:List Frame} {w v:World} (h:lone f cs w=lone g ds v):f=g/\cs=ds/\w=v:=by
 have h1:(lone f cs w).gs[0]! =(lone g ds v).gs[0]!:=by rw[h]
 have h2:(lone f cs w).world=(lone g ds v).world:=by rw[h]
 have h3:(ij f cs)=(ij g ds):=h1;simp only[Goroutine.mk.injEq]at h3;exact⟨h3.1,h3.2.1,h2⟩
def Alike (w w':World):Prop:=∀r:Nat,w'.heap[r]?=w.heap[r]? \/((∃d,w.heap[r]?=some (Obj.deferred d))/\∃d,w'.heap[r]?=some (Obj.deferred d))
theorem Alike.refl (w:World):Alike w w:=fun _=>.inl rfl
theorem Alike.trans {a b c:World} (h:Alike a b) (k:Alike b c):Alike a c:=fun r=>by
 rcases k r with k|⟨⟨d,k1⟩,k2⟩
 .rcases h r with h|⟨h1,d,h2⟩
  .exact .inl (k.trans h)
  .exact .inr ⟨h1,d,k.trans h2⟩
 .rcases h r with h|⟨h1,_⟩
  .exact .inr ⟨⟨d,h▸k1⟩,k2⟩
  .exact .inr ⟨h1,k2⟩
theorem rA (P:Program) (n:Nat) (m m1:Machine) (h:runN P n m=.next m1):runN P (n+1) m=step P m1:=by
 rw[runN_add,h];simp only[runN];split<;>simp_all
section
variable {P:Program} {S:Nat->Bool} {H:FuncId->Code->Code->Prop} {N:Nat} {p:Pi}
def FD (P:Program) (S:Nat->Bool) (H:FuncId->Code->Code->Prop) (p:Pi) (g:Frame):Prop:=(∃d,DL p g.defers d)/\∀d x r s k,g.todo≠ .call d x r s::k
theorem FL.fd {l l':List Frame} (h:FL P S H p l l'):∀g∈l,FD P S H p g:=by
 induction h with
 |one h r=>intro g hg;obtain rfl:g=_:=by simpa using hg
           exact⟨⟨_,h.defers⟩,fun d x r s k=>(nI h.todo d x r s k).1⟩
 |cons h t mJ ih=>
  intro g hg;rcases List.mem_cons.1 hg with rfl|hg
  .exact⟨⟨_,h.defers⟩,fun d x r s k=>(nI h.todo d x r s k).1⟩
  .exact ih g hg
theorem vO (g:Frame) (ch:List PanicEntry):(g.raise ch).defers=g.defers/\(g.raise ch).todo=g.todo:=by
 unfold Frame.raise;split<;>exact⟨rfl,rfl⟩
theorem raise_mode (g:Frame) {ch:List PanicEntry} {e:PanicEntry} (h:ch.head?=some e):∃Dl,(g.raise ch).mode=.panicking Dl/\Dl.head?=some e:=by
 unfold Frame.raise;split
 .refine⟨_,rfl,?_⟩;cases ch with
  |nil=>cases h
  |cons x l=>exact h
 .exact⟨_,rfl,h⟩
theorem rB:∀(n:Nat) (h:Frame) (hs:List Frame) (v w2:World) (ch:List PanicEntry) (e0:PanicEntry),h.mode=.panicking ch->ch.head?=some e0->FD P S H p h->(∀g∈hs,FD P S H p g)->
 WR P S (KS P S) N p v w2->∀(fr:Frame) (w1:World),runN P n (lone h (hs++[Base P]) v)=.next (lone fr [Base P] w1)->
 ((∃x,fr.leaving P w1 (.returned x))\/∃Dl,fr.leaving P w1 (.panicked Dl))->∃Dl,fr.mode=.panicking Dl/\Dl.head?=some e0/\Alike v w1:=by
 intro n;induction n with
 |zero=>
  intro h hs v w2 ch e0 hm he hd GM hw fr w1 hr hl;simp only[runN,Stepped.next.injEq]at hr;obtain⟨rfl,_,rfl⟩:=eH hr;exact⟨ch,hm,he,Alike.refl _⟩
 |succ n ih=>
  intro h hs v w2 ch e0 hm he hd GM hw fr w1 hr hl;obtain⟨⟨d',hdl⟩,EU⟩:=hd
  have bK:stepG P true {frame:=h,callers:=hs++[Base P],status:=.running,dying:=none} v=Go.unwind P true h (hs++[Base P]) none v:=by
   unfold stepG;simp only[hm]
  generalize hdd:h.defers=ds at hdl;cases hdl with
  | @cons r r' l l' Sy WS=>
    obtain⟨o,o',ho,Sz,hc⟩:=hw.blk r r' Sy
    have rC:(∃x,(Instr.takeDeferred r).run P v=.halt x v)->False:=by
     rintro⟨x,hx⟩
     have:step P (lone h (hs++[Base P]) v)=.ended _ _:=step_lone_ended (by
      rw[bK];unfold Go.unwind;simp only[hdd,Sem.runT_eq,hx,GStep.bare_after];rfl)
     simp only[runN,this]at hr;cases hr
    have Hl:(∀d,o≠ .deferred (some d))->False:=fun hn=>rC (by
     simp only[Instr.takeDeferred,getObj,bind,Sem.bind,Sem.run,ho];cases o<;>first|exact⟨_,rfl⟩|(rename_i d;cases d<;>first|exact⟨_,rfl⟩|exact absurd rfl (hn _)))
    rcases hc with⟨_,c,c',el,fz,rfl,rfl,_⟩|⟨hN,qo⟩
    .exact(Hl fun d h=>by cases h).elim
    .cases qo with
     |dK=>
      have aX:(Instr.takeDeferred r).run P v=.ok [] {v with heap:=v.heap.setIfInBounds r (.deferred none)}:=by
       simp[Instr.takeDeferred,getObj,setObj,bind,Sem.bind,Sem.run,ho,pure]
      have bM:step P (lone h (hs++[Base P]) v)=.next (lone {h with defers:=[]++l} (hs++[Base P]) {v with heap:=v.heap.setIfInBounds r (.deferred none)}):=step_lone_go (by
       rw[bK];unfold Go.unwind;simp only[hdd,Sem.runT_eq,aX,GStep.bare_after];rfl)
      simp only[runN,bM]at hr;obtain⟨Dl,k1,k2,k3⟩:=ih {h with defers:=[]++l} hs _ {w2 with heap:=w2.heap.setIfInBounds r' (.deferred none)} ch e0 hm he ⟨⟨_,WS⟩,EU⟩ GM (hw.setObj Sy .dJ hN) fr w1 hr hl;refine⟨Dl,k1,k2,Alike.trans (fun s=>?_) k3⟩;by_cases hs:r=s
      .subst hs;have ar:=(Array.getElem?_eq_some_iff.1 ho).1;exact .inr ⟨⟨_,ho⟩,none,by simp[ar]⟩
      .exact .inl (by simp[hs])
     |_=>exact(Hl fun d h=>by cases h).elim
  |nil=>
   have TF:h.catches P=false:=mK EU;cases hs with
   |nil=>
    exfalso
    have bM:step P (lone h ([]++[Base P]) v)=.next (lone ((Base P).raise ch) [] v):=step_lone_go (by
     rw[bK];unfold Go.unwind;simp only[hdd,hm,TF,Bool.false_eq_true,if_false];rfl)
    simp only[runN,bM]at hr;obtain⟨o,w5,WV⟩:=eN P ch v;cases n with
    |zero=>
     simp only[runN,Stepped.next.injEq]at hr;have:=(eH hr).2.1;simp at this
    |succ n=>simp only[runN,WV]at hr;cases hr
   |cons g2 mt=>
    have bM:step P (lone h (g2::mt++[Base P]) v)=.next (lone (g2.raise ch) (mt++[Base P]) v):=step_lone_go (by
     rw[bK];unfold Go.unwind;simp only[hdd,hm,TF,Bool.false_eq_true,if_false];rfl)
    simp only[runN,bM]at hr;obtain⟨ch3,m1,m2⟩:=raise_mode g2 he;obtain⟨Tp,ht2⟩:=GM g2 (by simp);have TG:=vO g2 ch;exact ih (g2.raise ch) mt v w2 ch3 e0 m1 m2 ⟨by rw[TG.1];exact Tp,by rw[TG.2];exact ht2⟩ (fun g hg=>GM g (by simp[hg])) hw fr w1 hr hl
end
def WW (P:Program) (lf:Frame) (rD:List Frame) (lw:World) (R:Value->World->Prop) (C:Value->World->Prop):Prop:=
 ∀T,∃n fr w1,runN P n (lone lf (rD++[Base P]) {lw with tape:=T})=.next (lone fr [Base P] w1)/\
  ((∃v,fr.leaving P w1 (.returned v)/\R v w1)\/(∃e ch,fr.leaving P w1 (.panicked (e::ch))/\C e.v w1/\∀(S:Nat->Bool) (q:Pi) v',S (P.funcs.size+P.globals.size)=false->¬VR S q e.v v'))
def rE (P:Program) (S:Nat->Bool) (N:Nat) (p:Pi) (R:Value->World->Prop) (kn own:Nat->Prop) (v':Value) (w':World):Prop:=
 ∃q v w1,R v w1/\VR S q v v'/\WR P S (KS P S) N q w1 w'/\Le p q/\kn=jw q/\own=bP N q
def fU (m:Nat->Nat) (d:Nat):Nat->Nat
 |0=>d
 |k+1=>fU m d k+m k
theorem oW (m:Nat->Nat) (d:Nat) {k j:Nat} (h:k<=j):fU m d k<=fU m d j:=by
 induction h with
 |refl=>exact Nat.le_refl _
 |step _ ih=>simp only[fU];omega
open Classical in
theorem splice [Inhabited α] (m:Nat->Nat) (a:Nat->Nat->α) (d:Nat):∃T:Nat->α,∀k j,j<m k->T (fU m d k+j)=a k j:=by
 refine⟨fun i=>if h:∃k,fU m d k<=i/\i<fU m d (k+1)then a h.choose (i-fU m d h.choose)else default,fun k j hj=>?_⟩;have h:∃k',fU m d k'<=fU m d k+j/\fU m d k+j<fU m d (k'+1):=⟨k,by omega,by simp only[fU];omega⟩
 simp only[dif_pos h];obtain⟨c,hc,fQ⟩:∃c,(fU m d c<=fU m d k+j/\fU m d k+j<fU m d (c+1))/\h.choose=c:=⟨h.choose,h.choose_spec,rfl⟩
 rw[fQ]
 have e:c=k:=by
  rcases Nat.lt_trichotomy c k with ar|heq|ym
  .have:=oW m d (show c+1<=k by omega);omega
  .exact heq
  .have:=oW m d (show k+1<=c by omega);simp only[fU]at this;omega
 subst e;congr 1;omega
def Kx (H:FuncId->Code->Code->Prop) (lf f:Frame):Prop:=lf.mode=.run/\f.mode=.run/\∃c c' k k',lf.todo=.code c::k/\f.todo=.code c'::k'/\H f.fn c c'
def Hm (H:FuncId->Code->Code->Prop) (f:Frame):Prop:=f.mode=.run/\∃c c' k',f.todo=.code c'::k'/\H f.fn c c'
structure rF (P:Program) (S:Nat->Bool) (H:FuncId->Code->Code->Prop) (N:Nat) (HA:ky) (HP:dC) (C:Value->World->Prop)where
 a0:Question->Nat
 m1:Nat
 WX:Value->World->Nat->Question->Nat
 ln:Nat
 q3:Pi->Nat->Frame->World->Value->World->Pi
 val:Frame->Value
 only:∀fn c c' c0,H fn c c'->CR P S (H fn) c0 c'->H fn c0 c'\/∃w,c0=.refuse w
 marked:S (P.funcs.size+P.globals.size)=false
 bare:∀o,fE S o=false
 AW:∀v w w',Alike w w'->C v w'->C v w
 check:∀p lf f v cs,kx P S H p lf f->Kx H lf f->(∀q,v.tape v.drawn q=a0 q)->∃n g1 v1 e,runN P n (lone lf cs v)=.next (lone g1 cs v1)/\g1.mode=.panicking [e]/\e.v=val lf/\
  FD P S H p g1/\v1.heap=v.heap
 ha:∀p lf f v w2,kx P S H p lf f->Kx H lf f->WR P S (KS P S) N p v w2->C (val lf) v->HA (jw p) (bP N p) f w2
 pass:∀p lf f v w2 lc cs u' w3 ei bq,kx P S H p lf f->Kx H lf f->WR P S (KS P S) N p v w2->HP (jw p) (bP N p) f w2 u' w3 ei bq->(∀i,i<m1->∀q,v.tape (v.drawn+i) q=WX u' w3 i q)->
  ∃n u v1,1<=n/\runN P n (lone lf (lc::cs) v)=.next (lone (lc.finish u) cs v1)/\VR S (q3 p v.heap.size f w2 u' w3) u u'/\WR P S (KS P S) N (q3 p v.heap.size f w2 u' w3) v1 w3/\
   Le p (q3 p v.heap.size f w2 u' w3)/\ei=jw (q3 p v.heap.size f w2 u' w3)/\bq=bP N (q3 p v.heap.size f w2 u' w3)/\v1.tape=v.tape/\v1.drawn=v.drawn+m1/\v1.heap.size=v.heap.size+ln
structure Nd where
 p:Pi
 L:Nat
 f:Frame
 top:List Frame
 w:World
section
variable (Q:Program) (S:Nat->Bool) (H:FuncId->Code->Code->Prop) (N:Nat) (main:Bool) (base:List Frame) (Fin:nJ) (HA:ky) (HP:dC)
def Nd.ct (x:Nd):Prop:=CT Q main base Fin HA HP (jw x.p) (bP N x.p) x.f x.top x.w
def Nd.step (x:Nd) (w2:World):GStep:=stepG Q main (ij x.f (x.top++base)) w2
def Nd.bad (x:Nd) (w2:World):Prop:=
 Env (jw x.p) x.w w2/\
 ¬((∃w3 es f2 nK,x.step Q main base w2=.go (ij f2 (nK++base)) w3 es/\Fair (jw x.p) (bP N x.p) w2 w3 es/\CT Q main base Fin HA HP (aE (jw x.p) w2 w3) (aE (bP N x.p) w2 w3) f2 nK w3)\/
  (∃w3 es v b bs,base=b::bs/\x.step Q main base w2=.go (ij (b.finish v) bs) w3 es/\Fair (jw x.p) (bP N x.p) w2 w3 es/\Fin (aE (jw x.p) w2 w3) (aE (bP N x.p) w2 w3) v w3)\/
  (∃w3 es v,base=[]/\x.step Q main base w2=.ended (.done v) w3 es/\Fair (jw x.p) (bP N x.p) w2 w3 es/\Fin (aE (jw x.p) w2 w3) (aE (bP N x.p) w2 w3) v w3)\/
  (HA (jw x.p) (bP N x.p) x.f w2/\∃c rest,x.top=c::rest/\∀v w3 ei bq,HP (jw x.p) (bP N x.p) x.f w2 v w3 ei bq->CT Q main base Fin HA HP ei bq (c.finish v) rest w3))
theorem Nd.Ps (x:Nd) (h:¬x.ct Q N main base Fin HA HP):∃w2,x.bad Q N main base Fin HA HP w2:=by
 refine Classical.byContradiction fun hn=>h (CT.mk fun w2 he=>?_);exact Classical.byContradiction fun hx=>hn ⟨w2,he,hx⟩
def Nd.out (x:Nd) (w2:World) (o:Value×World):Prop:=
 ∃c rest ei bq,x.top=c::rest/\HP (jw x.p) (bP N x.p) x.f w2 o.1 o.2 ei bq/\¬CT Q main base Fin HA HP ei bq (c.finish o.1) rest o.2
open Classical in
noncomputable def Nd.pick (x:Nd):World:=if h:∃w2,x.bad Q N main base Fin HA HP w2 then h.choose else x.w
theorem Nd.uh (x:Nd) (h:¬x.ct Q N main base Fin HA HP):x.bad Q N main base Fin HA HP (x.pick Q N main base Fin HA HP):=by
 have:=x.Ps Q N main base Fin HA HP h;unfold Nd.pick;rw[dif_pos this];exact this.choose_spec
open Classical in
noncomputable def Nd.eO (x:Nd):Value×World:=
 if h:∃o,x.out Q N main base Fin HA HP (x.pick Q N main base Fin HA HP) o then h.choose else(undef,x.w)
theorem Nd.vP (x:Nd) (h:∃o,x.out Q N main base Fin HA HP (x.pick Q N main base Fin HA HP) o):x.out Q N main base Fin HA HP (x.pick Q N main base Fin HA HP) (x.eO Q N main base Fin HA HP):=by
 unfold Nd.eO;rw[dif_pos h];exact h.choose_spec
end
section
variable {P:Program} (Q:Program) {S:Nat->Bool} {H:FuncId->Code->Code->Prop} {N:Nat} (main:Bool) (base:List Frame) (Fin:nJ) {HA:ky} {HP:dC} {C:Value->World->Prop} (hl:rF P S H N HA HP C)
open Classical in
noncomputable def Nd.nx (x:Nd):Nd:=
 if Hm H x.f then
  match x.top with
  |c::rest=>⟨hl.q3 x.p x.L x.f (x.pick Q N main base Fin HA HP) (x.eO Q N main base Fin HA HP).1 (x.eO Q N main base Fin HA HP).2,x.L+hl.ln,c.finish (x.eO Q N main base Fin HA HP).1,rest,(x.eO Q N main base Fin HA HP).2⟩
  | []=>x
 else match x.step Q main base (x.pick Q N main base Fin HA HP)with
 |.go g w3 _=>⟨ext x.p x.L (x.pick Q N main base Fin HA HP).heap.size (w3.heap.size-(x.pick Q N main base Fin HA HP).heap.size),x.L+(w3.heap.size-(x.pick Q N main base Fin HA HP).heap.size),
    g.frame,g.callers.take (g.callers.length-base.length),w3⟩
 |_=>x
noncomputable def Nd.path (x:Nd):Nat->Nd
 |0=>x
 |k+1=>(Nd.path x k).nx Q main base Fin hl
open Classical in
noncomputable def Nd.cnt (x:Nd):Nat:=
 if Hm H x.f then hl.m1 else(gw (x.step Q main base (x.pick Q N main base Fin HA HP))).drawn-(x.pick Q N main base Fin HA HP).drawn
open Classical in
noncomputable def Nd.piece (x:Nd) (i:Nat):Question->Nat:=
 if Hm H x.f then hl.WX (x.eO Q N main base Fin HA HP).1 (x.eO Q N main base Fin HA HP).2 i else(x.pick Q N main base Fin HA HP).tape ((x.pick Q N main base Fin HA HP).drawn+i)
end
instance : Inhabited (Question -> Nat) := ⟨fun _ => 0⟩
def Ends (P:Program) (fr:Frame) (w1:World):Prop:=(∃v,fr.leaving P w1 (.returned v))\/∃ch,fr.leaving P w1 (.panicked ch)
theorem Ends.after {P:Program} (h:Ends P fr w1):∃b,step P (lone fr [Base P] w1)=.next (lone b [] w1)/\∃o w2,step P (lone b [] w1)=.ended o w2:=by
 rcases h with⟨v,h⟩|⟨ch,h⟩
 .exact⟨_,step_leave_returned h,fT P v w1⟩
 .exact⟨_,step_leave_panicked h,eN P ch w1⟩
theorem before {P:Program} {m0:Machine} (h:runN P n m0=.next (lone fr [Base P] w1)) (he:Ends P fr w1) {ν:Nat} {gs:List Frame} {v:World}
 (hv:runN P ν m0=.next (lone g (gs++[Base P]) v)):ν<=n/\runN P (n-ν) (lone g (gs++[Base P]) v)=.next (lone fr [Base P] w1):=by
 obtain⟨b,h1,o,w2,h2⟩:=he.after
 have hle:ν<=n:=by
  rcases Nat.lt_or_ge n ν with ar|xV
  .exfalso;obtain⟨j,rfl⟩:∃j,ν=(n+1)+j:=⟨ν-(n+1),by omega⟩
   rw[runN_add,rA P n _ _ h,h1]at hv;cases j with
   |zero=>
    simp only[runN,Stepped.next.injEq]at hv;have:=(eH hv).2.1;simp at this
   |succ j=>simp only[runN,h2]at hv;cases hv
  .exact xV
 refine⟨hle,?_⟩;have:n=ν+(n-ν):=by omega
 rw[this,runN_add,hv]at h;exact h
theorem vQ {P:Program} {b:Frame} {v1:World} (h:runN P r σ=.next (lone fr [Base P] w1)) (hs:step P σ=.next (lone b [] v1)) (hb:∃o w2,step P (lone b [] v1)=.ended o w2):r=0/\σ=lone fr [Base P] w1:=by
 obtain⟨o,w2,hb⟩:=hb;cases r with
 |zero=>simp only[runN,Stepped.next.injEq]at h;exact⟨rfl,h⟩
 |succ r=>
  exfalso;simp only[runN,hs]at h;cases r with
  |zero=>
   simp only[runN,Stepped.next.injEq]at h;have:=(eH h).2.1;simp at this
  |succ r=>simp only[runN,hb]at h;cases h
theorem vR {P:Program} {o:Outcome} (h:runN P r σ=.next (lone fr [Base P] w1)) (he:Ends P fr w1) (hs:step P σ=.ended o w2):False:=by
 cases r with
 |zero=>
  simp only[runN,Stepped.next.injEq]at h;obtain⟨b,h1,_⟩:=he.after;rw[h,h1]at hs;cases hs
 |succ r=>simp only[runN,hs]at h;cases h
theorem FL.above {P:Program} {S:Nat->Bool} {H:FuncId->Code->Code->Prop} {p:Pi} (h:FL P S H p (f::t) (f'::t')) {c c':Code} (hh:H f'.fn c c'):∃g g' r r',t=g::r/\t'=g'::r'/\FL P S H p (g::r) (g'::r')/\(S JK=true->jR g):=by
 cases h with
 |one h r=>exact absurd (h.fn▸hh) (r.2 c c')
 |cons h k mJ=>
  cases k with
  |one h r=>exact⟨_,_,_,_,rfl,rfl,.one h r,fun hj=>mJ hj _ rfl⟩
  |cons h t Hj=>exact⟨_,_,_,_,rfl,rfl,.cons h t Hj,fun hj=>mJ hj _ rfl⟩
section
variable {P:Program} {F:Array Func} {S:Nat->Bool} {H:FuncId->Code->Code->Prop} {N:Nat} {HA:ky} {HP:dC} {C:Value->World->Prop}
theorem Hn {p:Pi} (hl:rF P S H N HA HP C) (hf:FL P S H p (f::t) (f'::t')) (hh:Hm H f'):Kx H f f'\/∃w k,f.todo=.code (.refuse w)::k/\f.mode=.run:=by
 obtain⟨hm,c,c',k',ht,hH⟩:=hh;have lZ:=hf.head.mode;rw[hm]at lZ;have aX:f.mode=.run:=by generalize f.mode=o at lZ;cases lZ;rfl
 have EU:=hf.head.todo;rw[ht]at EU
 have key:∀x,f.todo=x->TL P S (H f.fn) p x (.code c'::k')->Kx H f f'\/∃w k,f.todo=.code (.refuse w)::k/\f.mode=.run:=by
  intro x hx EU;cases EU with
  |cons hi EU=>
   cases hi with
   | @code c0 _ NM=>
     rcases hl.only _ c c' c0 hH (hf.head.fn▸NM)with h|⟨w,h⟩
     .exact .inl ⟨aX,hm,c0,c',_,k',hx,ht,h⟩
     .rw[h]at hx;exact .inr ⟨w,_,hx,aX⟩
 exact key _ rfl EU
theorem ui {p:Pi} (hc:Closed P F S H) (hg:iv P S p) {lf:Frame} {rD top:List Frame} {w:World} (hw:WR P S (KS P S) N p lw w)
 (hf:FL P S H p (lf::rD) (f::top)) {R:Value->World->Prop} (hl:rF P S H N HA HP C) (EV:WW P lf rD lw R C) (main:Bool) (base:List Frame) (hb:Pp P S main base):
 CT (ac P F) main base (rE P S N p R) HA HP (jw p) (bP N p) f top w:=by
 refine Classical.byContradiction fun YH=>?_;let Fin:=rE P S N p R
 let x0:Nd:=⟨p,lw.heap.size,f,top,w⟩
 have xz:¬x0.ct (ac P F) N main base Fin HA HP:=YH;let X:=fun k=>Nd.path (ac P F) main base Fin hl x0 k
 let pk:=fun k=>(X k).pick (ac P F) N main base Fin HA HP
 let m:=fun k=>(X k).cnt (ac P F) main base Fin hl
 let D:=fun k=>fU m lw.drawn k
 let start:=fun T:Nat->Question->Nat=>lone lf (rD++[Base P]) {lw with tape:=T}
 have inv:∀k (T:Nat->Question->Nat),(∀j,j<k->∀i,i<m j->T (D j+i)=(X j).piece (ac P F) main base Fin hl i)->∃ν g gs v,k<=ν/\runN P ν (start T)=.next (lone g (gs++[Base P]) v)/\WR P S (KS P S) N (X k).p v (X k).w/\
  FL P S H (X k).p (g::gs) ((X k).f::(X k).top)/\iv P S (X k).p/\v.tape=T/\v.drawn=D k/\v.heap.size=(X k).L/\(¬(X k).ct (ac P F) N main base Fin HA HP)/\Le p (X k).p:=by
  intro k;induction k with
  |zero=>intro T _;exact⟨0,lf,rD,{lw with tape:=T},Nat.le_refl _,rfl,hw.tape T lw.drawn,hf,hg,rfl,rfl,rfl,xz,Le.refl p⟩
  |succ k ih=>
   intro T hT;obtain⟨ν,g,gs,v,e0,e1,e2,e3,e4,e5,e6,e7,e8,e9⟩:=ih T fun j hj i hi=>hT j (by omega) i hi;obtain⟨vS,rC⟩:=(X k).uh (ac P F) N main base Fin HA HP e8;have xD:WR P S (KS P S) N (X k).p v (pk k):=e2.env vS;obtain⟨n,fr,w1,c1,c2⟩:=EV T
   have mv:Ends P fr w1:=by
    rcases c2 with⟨rv,h,_⟩|⟨e,ch,h,_⟩
    .exact .inl ⟨rv,h⟩
    .exact .inr ⟨_,h⟩
   obtain⟨hle,pJ⟩:=before c1 mv e1;by_cases kz:Hm H (X k).f
   ·
    rcases Hn hl e3 kz with hh|⟨ws,kk,YI,YJ⟩
    .have tD:m k=hl.m1:=by show Nd.cnt _ _ _ _ hl (X k)=_;unfold Nd.cnt;rw[if_pos kz]
     obtain⟨lc,fc,yn,rest,hgs,qv,NN,GF⟩:∃lc fc yn rest,gs=lc::yn/\(X k).top=fc::rest/\FL P S H (X k).p (lc::yn) (fc::rest)/\(S JK=true->jR lc):=by
      obtain⟨_,_,c,c',_,_,_,_,hH⟩:=hh;obtain⟨lc,fc,lr,r,h1,h2,h3⟩:=e3.above hH;exact⟨lc,fc,lr,r,h1,h2,h3⟩
     have tE:HA (jw (X k).p) (bP N (X k).p) (X k).f (pk k):=by
      let T2:Nat->Question->Nat:=fun i=>if i<D k then T i else hl.a0
      have hT2:∀j,j<k->∀i,i<m j->T2 (D j+i)=(X j).piece (ac P F) main base Fin hl i:=fun j hj i hi=>by
       have h1:=oW m lw.drawn (show j+1<=k by omega);simp only[fU]at h1;have:D j+i<D k:=by show fU m lw.drawn j+i<fU m lw.drawn k;omega
       show(if D j+i<D k then T (D j+i)else hl.a0)=_;rw[if_pos this];exact hT j (by omega) i hi
      obtain⟨ν2,g2,NO,v2,_,f1,f2,f3,_,f5,f6,_,_,_⟩:=ih T2 hT2;have WY:Kx H g2 (X k).f\/_:=Hn hl f3 kz;obtain⟨n2,fr2,w3,d1,d2⟩:=EV T2
      have vT:Ends P fr2 w3:=by
       rcases d2 with⟨rv,h,_⟩|⟨e,ch,h,_⟩
       .exact .inl ⟨rv,h⟩
       .exact .inr ⟨_,h⟩
      obtain⟨_,Pu⟩:=before d1 vT f1;rcases WY with WY|⟨ws,kk,YI,YJ⟩
      .obtain⟨nn,g3,v3,e,p1,p2,p3,p4,p5⟩:=hl.check (X k).p g2 (X k).f v2 (NO++[Base P]) f3.head WY (fun q=>by
        rw[f5,f6];show(if D k<D k then T (D k)else hl.a0) q=hl.a0 q;rw[if_neg (Nat.lt_irrefl _)])
       have hgo:runN P (ν2+nn) (start T2)=.next (lone g3 (NO++[Base P]) v3):=by rw[runN_add,f1];exact p1
       obtain⟨_,Pv⟩:=before d1 vT hgo;have hw3:WR P S (KS P S) N (X k).p v3 (X k).w:=⟨f2.inj,fun r r' h=>by rw[p5];exact f2.blk r r' h,by rw[p5];exact f2.low,f2.fix,by rw[p5];exact f2.fC,f2.jq,f2.str,f2.tw⟩
       have hfd:∀x∈NO,FD P S H (X k).p x:=fun x hx=>f3.fd x (by simp[hx]);obtain⟨Dl,q1,q2,q3⟩:=rB _ g3 NO v3 (X k).w [e] e p2 rfl p4 hfd hw3 fr2 w3 Pv vT;rcases d2 with⟨rv,h,_⟩|⟨e',Sv,h,hC,_⟩
       .have:=h.1;rw[q1]at this;cases this
       .have:=h.1;rw[q1]at this;simp only[FrameMode.panicking.injEq]at this;subst this;simp only[List.head?_cons,Option.some.injEq]at q2;subst q2;rw[p3]at hC;have NP:Alike v2 w3:=fun r=>by have:=q3 r;rw[p5]at this;exact this
        exact hl.ha (X k).p g2 (X k).f v2 (pk k) f3.head WY (f2.env vS) (hl.AW _ _ _ NP hC)
      .exact(vR Pu vT (step_lone_ended (o:=.unsupported _ (g2.pos P)) (w':=v2) (by
        unfold stepG;simp only[YJ];unfold stepG.exec;simp only[YI];rfl))).elim
     have EW:∃o,(X k).out (ac P F) N main base Fin HA HP (pk k) o:=by
      refine Classical.byContradiction fun gT=>rC (.inr (.inr (.inr ⟨tE,fc,rest,qv,fun v w3 ei bq hp=>?_⟩)));exact Classical.byContradiction fun hx=>gT ⟨(v,w3),fc,rest,ei,bq,qv,hp,hx⟩
     obtain⟨fc2,TH,ei,bq,NQ,hHP,Pw⟩:=(X k).vP (ac P F) N main base Fin HA HP EW;rw[qv]at NQ;obtain⟨rfl,rfl⟩:fc=fc2/\rest=TH:=by simpa using NQ
     obtain⟨nn,u,v1,p0,p1,p2,p4,p5,p6,p7,p8,p9,p10⟩:=hl.pass (X k).p g (X k).f v (pk k) lc (yn++[Base P]) _ _ ei bq e3.head hh xD hHP (fun i hi q=>by
      have:=hT k (by omega) i (by rw[tD];exact hi);rw[e5,e6,this];unfold Nd.piece;rw[if_pos kz])
     have GN:X (k+1)=⟨hl.q3 (X k).p (X k).L (X k).f (pk k) ((X k).eO (ac P F) N main base Fin HA HP).1 ((X k).eO (ac P F) N main base Fin HA HP).2,(X k).L+hl.ln,fc.finish ((X k).eO (ac P F) N main base Fin HA HP).1,rest,((X k).eO (ac P F) N main base Fin HA HP).2⟩:=by
      show(X k).nx (ac P F) main base Fin hl=_;unfold Nd.nx;rw[if_pos kz,qv]
     rw[GN];rw[e7]at p2 p4 p5 p6 p7;refine⟨ν+nn,lc.finish u,yn,v1,by omega,by rw[runN_add,e1,hgs];exact p1,p4,(NN.mono p5).top ((NN.mono p5).head.finish p2 fun hj=>(GF hj).fits _) (dB _ _),e4.mono p5,p8.trans e5,?_,by rw[p10,e7],?_,e9.trans p5⟩
     .rw[p9,e6];show D k+hl.m1=fU m lw.drawn k+m k;rw[tD]
     .unfold Nd.ct;rw[<-p6,<-p7];exact Pw
    .exact(vR pJ mv (step_lone_ended (o:=.unsupported _ (g.pos P)) (w':=v) (by
      unfold stepG;simp only[YJ];unfold stepG.exec;simp only[YI];rfl))).elim
   ·
    have tD:m k=(gw ((X k).step (ac P F) main base (pk k))).drawn-(pk k).drawn:=by show Nd.cnt _ _ _ _ hl (X k)=_;unfold Nd.cnt;rw[if_neg kz]
    have AX:kj (m k) v (pk k):=fun j hj q=>by
     have:=hT k (by omega) j hj;rw[e5,e6,this];unfold Nd.piece;rw[if_neg kz]
    have hd:(gw (stepG (ac P F) main {frame:=(X k).f,callers:=(X k).top++base,status:=.running,dying:=none} (pk k))).drawn<=(pk k).drawn+m k:=by
     rw[tD];show(gw ((X k).step (ac P F) main base (pk k))).drawn<=(pk k).drawn+((gw ((X k).step (ac P F) main base (pk k))).drawn-(pk k).drawn)
     omega
    have Px:=dg.step (b:=Base P) (bs:=[]) (aN:=base) hc xD e4 e3 (fun c c' k1 k1' hm h1 h2 hH=>kz ⟨by
     have lZ:=e3.head.mode;rw[hm]at lZ;generalize(X k).f.mode=o at lZ;cases lZ;rfl,c,c',k1',h2,e3.head.fn▸hH⟩) (fun⟨_,o,_,_,_,_,_,_,h5,_⟩=>by rw[hl.bare o.op]at h5;cases h5) true main hb AX hd
    rcases Px with⟨o,w3,es,hs⟩|⟨q,ch,Sv,w3,es,Dj,hs⟩|⟨c,nn,v1,w3,es,cS,hm,TI,jx⟩
    .exact(vR pJ mv (step_lone_ended (o:=o) (w':=w3) (by rw[hs];rfl))).elim
    .exfalso;have bK:step P (lone g (gs++[Base P]) v)=.next (lone ((Base P).raise ch) [] w3):=step_lone_go (by rw[hs];rfl);obtain⟨_,hσ⟩:=vQ pJ bK (eN P ch w3);rw[hσ]at bK;rcases c2 with⟨rv,h,_⟩|⟨e,Dl,h,_,hnv⟩
     .rw[step_leave_returned h]at bK;simp only[Stepped.next.injEq]at bK;have q1:=(eH bK).1;rw[dx]at q1;have:=congrArg (fun f:Frame=>f.mode) q1;simp[Base,Frame.raise]at this
     .rw[step_leave_panicked h]at bK;simp only[Stepped.next.injEq]at bK;have q1:=congrArg (fun f:Frame=>f.mode) (eH bK).1;simp only[Base,Frame.raise,FrameMode.panicking.injEq]at q1;rw[<-q1]at Dj;cases Dj with
      |cons b1 b2 hv _=>exact hnv S q _ hl.marked hv
    .obtain⟨rG,rH,qw⟩:=cq.fair xD hm TI;rcases jx with⟨f2,Ls,t2,Lt,NN,hs,tf⟩|⟨Py,AY,hv,hs,tf⟩
     .have bK:step P (lone g (gs++[Base P]) v)=.next (lone f2 (t2++[Base P]) v1):=step_lone_go (by rw[hs];rfl);have oL:=rA P ν _ _ e1;rw[bK]at oL;have mt:(X k).step (ac P F) main base (pk k)=.go (ij Ls (Lt++base)) w3 cS:=tf
      have GN:X (k+1)=⟨ext (X k).p (X k).L (pk k).heap.size c,(X k).L+c,Ls,Lt,w3⟩:=by
       show(X k).nx (ac P F) main base Fin hl=_;unfold Nd.nx;rw[if_neg kz];have Ay:(X k).step (ac P F) main base ((X k).pick (ac P F) N main base Fin HA HP)=.go (ij Ls (Lt++base)) w3 cS:=tf;rw[Ay]
       have bQ:w3.heap.size-((X k).pick (ac P F) N main base Fin HA HP).heap.size=c:=by
        have h6:w3.heap.size=(pk k).heap.size+c:=hm.kG;show w3.heap.size-(pk k).heap.size=c;rw[h6,Nat.add_sub_cancel_left]
       simp only[bQ];congr 1;rw[List.length_append,Nat.add_sub_cancel];exact List.take_left
      rw[GN];have hrel:=hm.rel;rw[e7]at hrel NN rH qw;have tF:=eD (X k).p (X k).L (pk k).heap.size c;refine⟨ν+1,f2,t2,v1,by omega,oL,hrel,NN,e4.mono tF,hm.tape.trans e5,?_,by rw[hm.size,e7],?_,e9.trans tF⟩
      .rw[hm.drawn,e6]
       have:m k=nn:=by
        rw[tD,mt];have h5:w3.drawn=(pk k).drawn+nn:=hm.kH;show w3.drawn-(pk k).drawn=nn;rw[h5,Nat.add_sub_cancel_left]
       show D k+nn=fU m lw.drawn k+m k;rw[this]
      .intro AZ;refine rC (.inl ⟨w3,cS,Ls,Lt,mt,rG,?_⟩);unfold Nd.ct at AZ;rw[rH,qw]at AZ;exact AZ
     .exfalso;have bK:step P (lone g (gs++[Base P]) v)=.next (lone ((Base P).finish Py) [] v1):=step_lone_go (by rw[hs];rfl);obtain⟨_,hσ⟩:=vQ pJ bK (fT P Py v1);rw[hσ]at bK;rcases c2 with⟨rv,h,hR⟩|⟨e,Dl,h,_⟩
      .rw[step_leave_returned h]at bK;simp only[Stepped.next.injEq]at bK;obtain⟨q1,_,q3⟩:=eH bK;rw[dx,dx]at q1
       have A9:rv=Py:=by
        have:=congrArg (fun f:Frame=>f.tmps) q1;simpa using this
       subst A9;subst q3;have rI:Fin (aE (jw (X k).p) (pk k) w3) (aE (bP N (X k).p) (pk k) w3) AY w3:=⟨_,rv,w1,hR,hv,hm.rel,e9.trans (eD _ _ _ _),rH.symm,qw.symm⟩
       rcases tf with⟨b',vM,kS,tf⟩|⟨kS,tf⟩
       .exact rC (.inr (.inl ⟨w3,cS,AY,b',vM,kS,tf,rG,rI⟩))
       .exact rC (.inr (.inr (.inl ⟨w3,cS,AY,kS,tf,rG,rI⟩)))
      .rw[step_leave_panicked h]at bK;simp only[Stepped.next.injEq]at bK;have q1:=(eH bK).1;rw[dx]at q1;have:=congrArg (fun f:Frame=>f.mode) q1;simp[Base,Frame.raise]at this
 obtain⟨T,hT⟩:=splice m (fun k j=>(X k).piece (ac P F) main base Fin hl j) lw.drawn;obtain⟨n,fr,w1,c1,c2⟩:=EV T
 have mv:Ends P fr w1:=by
  rcases c2 with⟨rv,h,_⟩|⟨e,ch,h,_⟩
  .exact .inl ⟨rv,h⟩
  .exact .inr ⟨_,h⟩
 obtain⟨ν,g,gs,v,e0,e1,_⟩:=inv (n+1) T fun j _ i hi=>hT j i hi;obtain⟨hle,_⟩:=before c1 mv e1;omega
end
end Go.aq
