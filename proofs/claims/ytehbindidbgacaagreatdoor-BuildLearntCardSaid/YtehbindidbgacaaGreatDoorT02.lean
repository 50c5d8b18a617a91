/- A part. Conditions: none. -/
import Derived.Test.YtehbindidbgacaaGreatDoorT01
set_option linter.all false
namespace Go.aC
variable {c id m n r r':Nat} {cX xs:Array Value} {dD t t':List Frame} {es:Array Event} {f f' fr g:Frame} {gh lw w1 w2:World} {k l l':List Item} {kn own:Nat->Prop} {s':GStep} {v v':Value} {α:Type} {σ:Machine}
def gw:GStep->World
 |.go _ w _=>w
 |.comm _ _ _ _ w _=>w
 |.spawn _ _ w _=>w
 |.count _ w _=>w
 |.timer _ _ w _=>w
 |.alone _ _ w _=>w
 |.newcoro _ _ _ w _=>w
 |.coroswitch _ _ _ w _=>w
 |.collect _ w _=>w
 |.watch _ w _=>w
 |.ended _ w _=>w
@[simp] theorem jQ (es:Array Event) (s:GStep):gw (GStep.after es s)=gw s:=by cases s <;> rfl
theorem FI (P:Program) (s:Sem α) (w:World):w.drawn<=(world (s.run P w)).drawn:=by
 have:=na P s w #[];rw[Sem.runT_fst]at this;exact this
theorem lz {P:Program} {s:Sem α} {w:World} {r:Result α} (h:s.run P w=r):w.drawn<=(world r).drawn:=h▸FI P s w
theorem se (P:Program) (fr:Frame) (cs:List Frame) (d:Option Dying) (m:String) (w:World):w.drawn<=(gw (endFatal P fr cs d m w)).drawn:=by
 unfold endFatal;dsimp only;split
 .rename_i h;exact lz h
 .rename_i h;exact lz h
 .rename_i h;exact lz h
theorem zi (P:Program) (fr:Frame) (cs:List Frame) (d:Option Dying) (g:Nat) (w:World):w.drawn<=(gw (early P fr cs d g w)).drawn:=by
 unfold early;dsimp only;repeat' split
 all_goals first
  |exact zAC _
  |(have hx:=lz (by assumption:Sem.run P (choose (Question.early g)) w=Result.ok _ _);exact hx)
  |(have hx:=lz (by assumption:Sem.run P (choose (Question.early g)) w=Result.halt _ _);exact hx)
theorem qo (P:Program) (fr:Frame) (cs:List Frame) (d:Option Dying) (s:Sem Next) (w:World):(world (s.runT P w #[]).1).drawn<=(gw (stepG.apply P true fr cs d s w)).drawn:=by
 unfold stepG.apply;simp only[zBV];generalize s.runT P w #[]=x;obtain⟨r,es⟩:=x;simp only[jQ];split;all_goals(try exact zAC _)
 all_goals(try(split<;>exact zAC _))
 all_goals first
  |exact se ..
  |exact zi ..
  |(split<;>split<;>exact zAC _)
section
variable (P:Program) (S:Nat->Bool) (H:FuncId->Code->Code->Prop) (N:Nat)
def dB (p:Pi) (w w':World) (b:Frame) (bs:List Frame) (aO:List Frame) (s s':GStep):Prop:=
 (∃o w1 es,s=.ended o w1 es)\/(∃q ch Uj w1 es,CL S q ch Uj/\s=.go {frame:=b.raise ch,callers:=bs,status:=.running,dying:=none} w1 es)\/
 ∃c n w1 gh es dc,cz P S (KS P S) N p w w' c n w1 gh/\(∀e∈dc,LN N (ext p w.heap.size w'.heap.size c) e)/\
  ((∃f f' top dD,FL P S H (ext p w.heap.size w'.heap.size c) (f::top) (f'::dD)/\
     s=.go {frame:=f,callers:=top++b::bs,status:=.running,dying:=none} w1 es/\
     s'=.go {frame:=f',callers:=dD++aO,status:=.running,dying:=none} gh dc)\/
   (∃v v',VR S (ext p w.heap.size w'.heap.size c) v v'/\
     s=.go {frame:=b.finish v,callers:=bs,status:=.running,dying:=none} w1 es/\
     ((∃b' wN,aO=b'::wN/\s'=.go {frame:=b'.finish v',callers:=wN,status:=.running,dying:=none} gh dc)\/
      (aO=[]/\s'=.ended (.done v') gh dc))))
end
section
variable {P:Program} {F:Array Func} {S:Nat->Bool} {H:FuncId->Code->Code->Prop} {N:Nat} {p:Pi} {w w':World} {b:Frame} {bs:List Frame} {aO:List Frame}
theorem dB.ended (o:Outcome) (w1:World) (es:Array Event):dB P S H N p w w' b bs aO (.ended o w1 es) s':=.inl ⟨o,w1,es,rfl⟩
theorem dB.go (h:WR P S (KS P S) N p w w') {top:List Frame} (hf:FL P S H p (f::top) (f'::dD)):
 dB P S H N p w w' b bs aO (.go {frame:=f,callers:=top++b::bs,status:=.running,dying:=none} w) (.go {frame:=f',callers:=dD++aO,status:=.running,dying:=none} w'):=
 .inr (.inr ⟨0,0,w,w',#[],#[],cz.refl h,by simp,.inl ⟨f,f',top,dD,by rw[bD];exact hf,rfl,rfl⟩⟩)
theorem dB.ret (h:WR P S (KS P S) N p w w') (hv:VR S p v v') (b':Frame) (wN:List Frame):
 dB P S H N p w w' b bs (b'::wN) (.go {frame:=b.finish v,callers:=bs,status:=.running,dying:=none} w) (.go {frame:=b'.finish v',callers:=wN,status:=.running,dying:=none} w'):=
 .inr (.inr ⟨0,0,w,w',#[],#[],cz.refl h,by simp,.inr ⟨v,v',by rw[bD];exact hv,rfl,.inl ⟨b',wN,rfl,rfl⟩⟩⟩)
theorem dB.MB (h:WR P S (KS P S) N p w w') (hv:VR S p v v'):
 dB P S H N p w w' b bs [] (.go {frame:=b.finish v,callers:=bs,status:=.running,dying:=none} w) (.ended (.done v') w'):=
 .inr (.inr ⟨0,0,w,w',#[],#[],cz.refl h,by simp,.inr ⟨v,v',by rw[bD];exact hv,rfl,.inr ⟨rfl,rfl⟩⟩⟩)
theorem dB.raised {q:Pi} {v v':List PanicEntry} (h:CL S q v v') (w1:World) (es:Array Event):
 dB P S H N p w w' b bs aO (.go {frame:=b.raise v,callers:=bs,status:=.running,dying:=none} w1 es) s':=.inr (.inl ⟨q,v,v',w1,es,h,rfl⟩)
theorem dB.trans (hm:cz P S (KS P S) N p w w' c n w1 gh) {dc:Array Event} (he:∀e∈dc,LN N (ext p w.heap.size w'.heap.size c) e) {s:GStep}
 (h:dB P S H N (ext p w.heap.size w'.heap.size c) w1 gh b bs aO s s'):dB P S H N p w w' b bs aO (s.after es) (s'.after dc):=by
 rcases h with⟨o,w2,es2,rfl⟩|⟨q,ch,Uj,w2,es2,Ed,rfl⟩|⟨c2,n2,w2,Hy,fs,fs',k1,k2,k3⟩
 .exact .inl ⟨o,w2,_,rfl⟩
 .exact .inr (.inl ⟨q,ch,Uj,w2,_,Ed,rfl⟩)
 .rw[hm.size,hm.li,nR]at k2 k3;refine .inr (.inr ⟨c+c2,n+n2,w2,Hy,es++fs,dc++fs',hm.trans k1,λx hx=>?_,?_⟩)
  .rcases zEH.1 hx with hx|hx
   .refine(he x hx).mono ?_;rw[<-nR];exact fe _ _ _ _
   .exact k2 x hx
  .rcases k3 with⟨f,f',top,dD,x1,rfl,rfl⟩|⟨v,v',x1,rfl,⟨b',wN,x2,rfl⟩|⟨x2,rfl⟩⟩
   .exact .inl ⟨f,f',top,dD,x1,rfl,rfl⟩
   .exact .inr ⟨v,v',x1,rfl,.inl ⟨b',wN,x2,rfl⟩⟩
   .exact .inr ⟨v,v',x1,rfl,.inr ⟨x2,rfl⟩⟩
def kN (m:Nat) (w w':World):Prop:=∀j,j<m->∀q,w.tape (w.drawn+j) q=w'.tape (w'.drawn+j) q
theorem kN.Vh (h:kN m w w') (hm:cz P S (KS P S) N p w w' c n w1 gh):kN (m-n) w1 gh:=by
 intro j hj q;have:=h (n+j) (by omega) q;rw[hm.tape,hm.D6,hm.drawn,hm.lj,zBE,zBE];exact this
theorem dB.run {β:Type} {Q:Pi->α->β->Prop} {s:Sem α} {s':Sem β} (h:SR P F S (KS P S) N Q s s' p) (hw:WR P S (KS P S) N p w w') (hm:kN m w w')
 {ev:Result α->Array Event->Array Event} {QQ:Result β->Array Event->Array Event} (ba:∀r es e,e∈QQ r es->e∈es)
 {k:Result α->GStep} {k':Result β->GStep} (hd:(gw (k' (s'.runT (ae P F) w' #[]).1)).drawn<=w'.drawn+m) (hk:∀r,(world r).drawn<=(gw (k' r)).drawn)
 (Vi:∀x w1,dead x->∃o w2 es,k (.halt x w1)=.ended o w2 es)
 (it:∀c n w1 gh x y,cz P S (KS P S) N p w w' c n w1 gh->Q (ext p w.heap.size w'.heap.size c) x y->kN (m-n) w1 gh->(gw (k' (.ok y gh))).drawn<=gh.drawn+(m-n)->
   dB P S H N (ext p w.heap.size w'.heap.size c) w1 gh b bs aO (k (.ok x w1)) (k' (.ok y gh)))
 (QR:∀c n w1 gh v v',cz P S (KS P S) N p w w' c n w1 gh->VR S (ext p w.heap.size w'.heap.size c) v v'->
   dB P S H N (ext p w.heap.size w'.heap.size c) w1 gh b bs aO (k (.halt (.panic v) w1)) (k' (.halt (.panic v') gh))):
 dB P S H N p w w' b bs aO (GStep.after (ev (s.runT P w #[]).1 (s.runT P w #[]).2) (k (s.runT P w #[]).1)) (GStep.after (QQ (s'.runT (ae P F) w' #[]).1 (s'.runT (ae P F) w' #[]).2) (k' (s'.runT (ae P F) w' #[]).1)):=by
 have ho:=SR.sound h w w' #[] #[] m hw hm (zAP (hk _) hd);rcases ho with⟨x,w1,es1,e,hx⟩|⟨c,n,w1,gh,es1,fs,k1,k2,⟨x,y,e,e',hq⟩|⟨v,v',e,e',hv⟩⟩
 .rw[e];obtain⟨o,w2,es,e2⟩:=Vi x w1 hx;simp only[e2];exact .inl ⟨o,w2,_,rfl⟩
 .rw[e']at hd;simp only at hd;have hwd:(world (.ok y gh:Result β)).drawn<=w'.drawn+m:=zAP (hk _) hd;simp only[world]at hwd;rw[k1.lj]at hwd;rw[e,e'];simp only[zDM];refine dB.trans k1 (λz hz=>k2 z (ba _ _ _ hz)) (it c n w1 gh x y k1 hq (hm.Vh k1) ?_);rw[k1.lj];omega
 .rw[e,e'];simp only[zDM];exact dB.trans k1 (λz hz=>k2 z (ba _ _ _ hz)) (QR c n w1 gh v v' k1 hv)
end
section
variable {P:Program} {F:Array Func} {S:Nat->Bool} {K:Kz} {N:Nat} {p:Pi}
structure Ph (S:Nat->Bool) (K:Kz) (p:Pi) (l l':Loop):Prop where
 h1:l.state=l'.state
 h2:l.pending=l'.pending
 h3:l.fn=l'.fn
 h4:AR S p l.tmps l'.tmps
 h5:l.params=l'.params
 h6:l.assign=l'.assign
 h7:l.body=l'.body
 h8:p l.defers l'.defers
 k1:S l.fn=true
 k2:K l.assign
 k3:K l.body
 k4:∀c,l.pending=some c->K c
 k5:K (.label (100000+l.fn))
theorem Ph.or {l l':Loop} (x:Ph S K p l l'):OR S K p (.loop l) (.loop l'):=.loop x.h1 x.h2 x.h3 x.h4 x.h5 x.h6 x.h7 x.h8 x.k1 x.k2 x.k3 x.k4 x.k5
theorem SR.getLoop (h:p r r'):SR P F S K N (λq l l'=>Ph S K q l l') (Instr.getLoop r) (Instr.getLoop r') p:=by
 unfold Instr.getLoop;refine(SR.getObj h).bind λq o o' hq ho=>?_;cases ho<;>first|exact SR.stuck|skip
 rename_i h1 h2 h3 h4 h5 h6 h7 h8 k1 k2 k3 k4 k5;exact SR.pure ⟨h1,h2,h3,h4,h5,h6,h7,h8,k1,k2,k3,k4,k5⟩
theorem SR.enterLoop {f f':Nat} (Uk:f=f') (hf:S f=true) (hz:K (.label (100000+f))) (hx:AR S p xs cX) (ps:Array Tmp) {a c:Code} (ha:K a) (hc:K c) {o o':Option Nat} (ho:RR p o o'):
 SR P F S K N (λq x y=>q x.1 y.1/\DL q x.2 y.2) (Instr.enterLoop f xs ps a c o) (Instr.enterLoop f' cX ps a c o') p:=by
 subst Uk;unfold Instr.enterLoop;cases ho with
 |none=>
  simp only[bind_assoc,pure_bind];refine(SR.newObj .ep λ_ _ _ _ _ _ _ a=>by cases a).bind λq r r' hq hr=>?_;refine(SR.newObj (Ph.or (l:={state:=.ready,pending:=none,fn:=f,tmps:=xs,params:=ps,assign:=a,body:=c,defers:=r}) (l':={state:=.ready,pending:=none,fn:=f,tmps:=cX,params:=ps,assign:=a,body:=c,defers:=r'}) ⟨rfl,rfl,rfl,hx.mono hq,rfl,rfl,rfl,hr.1,hf,ha,hc,λc h=>(by cases h),hz⟩) λ_ _ _ _ _ _ _ a=>by cases a).bind λq2 s s' cG hs=>?_;exact SR.pure ⟨hs.1,.cons (cG _ _ hr.1) .nil⟩
 |some h=>
  simp only[bind_assoc,pure_bind];refine(SR.getLoop h).bind λq r r' hq hr=>?_;refine(SR.newObj (Ph.or (l:={state:=.ready,pending:=none,fn:=f,tmps:=xs,params:=ps,assign:=a,body:=c,defers:=r.defers}) (l':={state:=.ready,pending:=none,fn:=f,tmps:=cX,params:=ps,assign:=a,body:=c,defers:=r'.defers}) ⟨rfl,rfl,rfl,hx.mono hq,rfl,rfl,rfl,hr.h8,hf,ha,hc,λc h=>(by cases h),hz⟩) λ_ _ _ _ _ _ _ a=>by cases a).bind λq2 s s' cG hs=>?_;exact SR.pure ⟨hs.1,.nil⟩
theorem SR.beginRound (h:p r r'):SR P F S K N (QE Unit) (Instr.beginRound r) (Instr.beginRound r') p:=by
 unfold Instr.beginRound;refine(SR.getLoop h).bind λq l l' hq hl=>?_;refine(SR.setObj (hq _ _ h) (Ph.or (l:={l with state:=.busy}) (l':={l' with state:=.busy}) ⟨rfl,hl.h2,hl.h3,hl.h4,hl.h5,hl.h6,hl.h7,hl.h8,hl.k1,hl.k2,hl.k3,hl.k4,hl.k5⟩) λ_ _ _ _ _ _ _ a=>by cases a).aD λq2 _ cG=>?_;rw[<-hl.h1];cases l.state with
 |ready=>exact SR.pure rfl
 |done=>exact SR.err _
 |busy=>exact SR.err _
 |exhausted=>exact SR.err _
theorem SR.endRound (h:p r r') (j:Option Code) (hj:∀c,j=some c->K c):SR P F S K N (QV S) (Instr.endRound r j) (Instr.endRound r' j) p:=by
 unfold Instr.endRound;refine(SR.getLoop h).bind λq l l' hq hl=>?_;refine(SR.setObj (hq _ _ h) (Ph.or (l:={l with state:=if j.isNone then .ready else .done,pending:=j}) (l':={l' with state:=if j.isNone then .ready else .done,pending:=j}) ⟨rfl,rfl,hl.h3,hl.h4,hl.h5,hl.h6,hl.h7,hl.h8,hl.k1,hl.k2,hl.k3,hj,hl.k5⟩) λ_ _ _ _ _ _ _ a=>by cases a).aD λq2 _ cG=>?_;exact SR.pure (VR.plain 2 _ rfl)
theorem SR.endLoop (h:p r r'):SR P F S K N (λ_ a b=>a=b/\∀c,a=some c->K c) (Instr.endLoop r) (Instr.endLoop r') p:=by
 unfold Instr.endLoop;refine(SR.getLoop h).bind λq l l' hq hl=>?_;rw[<-hl.h1]
 have tail:∀q2,Le q q2->SR P F S K N (λ_ a b=>a=b/\∀c,a=some c->K c) (Go.setObj r (.loop {l with state:=.exhausted})>>=λ_=>(Pure.pure l.pending:Sem (Option Code))) (Go.setObj r' (.loop {l' with state:=.exhausted})>>=λ_=>(Pure.pure l'.pending:Sem (Option Code))) q2:=λq2 cG=>by
  refine(SR.setObj (cG _ _ (hq _ _ h)) (Ph.or (l:={l with state:=.exhausted}) (l':={l' with state:=.exhausted}) ⟨rfl,hl.h2,hl.h3,hl.h4.mono cG,hl.h5,hl.h6,hl.h7,cG _ _ hl.h8,hl.k1,hl.k2,hl.k3,hl.k4,hl.k5⟩) λ_ _ _ _ _ _ _ a=>by cases a).aD λq3 _ gK=>?_;exact SR.pure ⟨hl.h2,hl.k4⟩
 split
 .exact(SR.err (α:=PUnit) (β:=PUnit) (Q:=QE PUnit) _).aD λq2 _ cG=>tail q2 cG
 .exact tail q (Le.refl q)
theorem SR.takeDeferred (h:p r r'):SR P F S K N (λ_ a b=>a=[]/\b=[]) (Instr.takeDeferred r) (Instr.takeDeferred r') p:=by
 unfold Instr.takeDeferred;refine(SR.getObj h).bind λq o o' hq ho=>?_;cases ho<;>first|exact SR.stuck|skip
 refine(SR.setObj (hq _ _ h) .ei λ_ _ _ _ _ _ _ a=>by cases a).aD λq2 _ cG=>?_;exact SR.pure ⟨rfl,rfl⟩
theorem SR.Vj (f f':α->Sem Value):∀(l:List α) {p:Pi} {acc BP:Array Value},(∀x q,Le p q->SR P F S K N (QV S) (f x) (f' x) q)->AR S p acc BP->
 SR P F S K N (QA S) (l.foldlM (λbs a=>Functor.map bs.push (f a)) acc) (l.foldlM (λbs a=>Functor.map bs.push (f' a)) BP) p:=by
 intro l;induction l with
 |nil=>intro p acc BP _ ha;exact SR.pure ha
 |cons x l ih=>
  intro p acc BP h ha;simp only[zFU];refine SR.bind (Q:=QA S) ?_ λq a b hq nW=>ih (λy q2 cG=>h y q2 (hq.trans cG)) nW;exact(h x p (Le.refl p)).bind λq b b' hq hb=>SR.pure ((ha.mono hq).push hb)
theorem SR.results {fn lh:Func} (hr:fn.results=lh.results) (h:AR S p xs cX):SR P F S K N (QV S) (Go.results fn xs) (Go.results lh cX) p:=by
 unfold Go.results;rw[<-hr];refine SR.bind (Q:=QA S) ?_ λq vs Pd hq hv=>?_
 .rw[zEF,<-zFE,zEF,<-zFE];refine SR.Vj _ _ _ (λx q hq=>?_) AR.empty;cases x with
  |tmp t=>exact SR.pure ((h.mono hq).getD t VR.undef)
  |cell a t=>exact(SR.asAddr ((h.mono hq).getD a VR.undef)).bind λq2 a a' cG ha=>SR.loadVar t ha
 .refine SR.pure ?_;have:=hv.1;by_cases h1:vs.size=1
  .have zg:Pd.size=1:=by omega
   simp only[h1,zg,dif_pos];exact hv.2 0 _ _ (by simp[h1]) (by simp[zg])
  .have zg:Pd.size≠1:=by omega
   simp only[h1,zg,dif_neg,not_false_eq_true];exact hv.tuple
end
section
variable {P:Program} {F:Array Func} {S:Nat->Bool} {H:FuncId->Code->Code->Prop} {N:Nat} {p:Pi} {w w':World} {b:Frame} {bs:List Frame} {aO:List Frame}
theorem MC {f:Nat} (h:KS P S (.label (100000+f))):S (P.funcs.size+P.globals.size+1+f)=false:=by
 have h:(decide (100000+f<100000)||!S (P.funcs.size+P.globals.size+1+(100000+f-100000)))=true:=h;rw[zCK,zDR (by omega),zEA]at h;simpa using h
theorem MD {f:Nat} (h:S (P.funcs.size+P.globals.size+1+f)=false):KS P S (.label (100000+f)):=by
 show(decide (100000+f<100000)||!S (P.funcs.size+P.globals.size+1+(100000+f-100000)))=true;rw[zCK,h];simp
theorem TL.kind {H:Code->Code->Prop} (h:TL P S H p l l'):(match l with|.call _ true _ _::_=>CallKind.wrapped|_=>CallKind.normal)=.normal/\(match l' with|.call _ true _ _::_=>CallKind.wrapped|_=>CallKind.normal)=.normal:=by
 cases h with
 |nil=>exact⟨rfl,rfl⟩
 |cons hi ht=>cases hi<;>exact⟨rfl,rfl⟩
theorem FL.head (h:FL P S H p (f::t) (f'::t')):kU P S H p f f':=by
 cases h with
 |one h=>exact h
 |cons h=>exact h
theorem FL.top {g':Frame} (h:FL P S H p (f::t) (f'::t')) (hg:kU P S H p g g') (hr:g.roundOf=f.roundOf/\g.fn=f.fn):FL P S H p (g::t) (g'::t'):=by
 cases h with
 |one h r=>exact .one hg ⟨hr.1.trans r.1,by rw[hr.2];exact r.2⟩
 |cons h t=>exact .cons hg t
theorem dR (f:Frame) (v:Value):(f.finish v).roundOf=f.roundOf/\(f.finish v).fn=f.fn:=by
 unfold Frame.finish;split<;>exact⟨rfl,rfl⟩
theorem jc (f:Frame) (v:List PanicEntry):(f.raise v).roundOf=f.roundOf/\(f.raise v).fn=f.fn:=by
 unfold Frame.raise;split<;>exact⟨rfl,rfl⟩
theorem dB.apply (hc:Closed P F S H) (hw:WR P S (KS P S) N p w w') {top:List Frame} (hf:FL P S H p (f::top) (f'::dD)) (hm:kN m w w')
 {s s':Sem Next} (hs:SR P F S (KS P S) N (QX S (KS P S)) s s' p) (hd:(gw (stepG.apply (ae P F) true f' (dD++aO) none s' w')).drawn<=w'.drawn+m):
 dB P S H N p w w' b bs aO (stepG.apply P true f (top++b::bs) none s w) (stepG.apply (ae P F) true f' (dD++aO) none s' w'):=by
 have ho:=SR.sound hs w w' #[] #[] m hw hm (zAP (qo ..) hd);have gp:=hf.head;have hk:=gp.todo.kind;have Vk:(f'.kind==CallKind.early)=false:=by rw[gp.kM];rfl
 rcases ho with⟨x,w1,es1,e,hx⟩|⟨c,n,w1,gh,es1,fs,k1,k2,⟨x,y,e,e',hq⟩|⟨v,v',e,e',hv⟩⟩
 .cases x with
  |stuck why=>exact .inl ⟨_,_,_,by simp only[stepG.apply,zBV,e];rfl⟩
  |unsupported u=>cases u<;>first|exact absurd hx id|exact .inl ⟨_,_,_,by simp only[stepG.apply,zBV,e];rfl⟩
  |_=>exact absurd hx id
 .rw[zDM]at e';have hle:=fe p w.heap.size w'.heap.size c;have ba:∀z∈seen (ae P F) f'.fn fs,LN N (ext p w.heap.size w'.heap.size c) z:=λz hz=>k2 z (mem_seen hz);have BA:=hf.mono hle;cases hq with
  | @value v v' h=>
    have t:=dB.trans (b:=b) (bs:=bs) (aO:=aO) k1 (es:=seen P f.fn (if f.kind==CallKind.early then #[]else es1)) ba (dB.go k1.rel (BA.top (BA.head.finish h) (dR f v)));simpa only[stepG.apply,zBV,e,e',Vk,zAN,zBG,GStep.after]using t
  |skip=>
   have t:=dB.trans (b:=b) (bs:=bs) (aO:=aO) k1 (es:=seen P f.fn (if f.kind==CallKind.early then #[]else es1)) ba (dB.go k1.rel (BA.top (BA.head.finish VR.undef) (dR f _)));simpa only[stepG.apply,zBV,e,e',Vk,zAN,zBG,GStep.after]using t
  | @enter g xs cX hg h=>
    have t:=dB.trans (b:=b) (bs:=bs) (aO:=aO) k1 (es:=seen P f.fn (if f.kind==CallKind.early then #[]else es1)) ba (dB.go k1.rel (FL.cons (kU.enter hc hg h hk.1 hk.2) BA));simp only[stepG.apply,zBV,e,e',Vk,zAN,zBG,GStep.after];exact t
  | @round l l' g xs cX a1 a2 hl hg h h1 h2 hz=>
    have hn:∀a b,¬H g a b:=(hc.Bz g hg).2 (MC hz);have t:=dB.trans (b:=b) (bs:=bs) (aO:=aO) k1 (es:=seen P f.fn (if f.kind==CallKind.early then #[]else es1)) ba (dB.go k1.rel (FL.cons (kU.MA hn hl hg h h1 h2) BA));simpa only[stepG.apply,zBV,e,e',Vk,zAN,zBG,GStep.after,zDW]using t
 .rw[zDM]at e';have hle:=fe p w.heap.size w'.heap.size c;have ba:∀z∈seen (ae P F) f'.fn fs,LN N (ext p w.heap.size w'.heap.size c) z:=λz hz=>k2 z (mem_seen hz);have BA:=hf.mono hle;have t:=dB.trans (b:=b) (bs:=bs) (aO:=aO) k1 (es:=seen P f.fn (if f.kind==CallKind.early then #[]else es1)) ba (dB.go k1.rel (BA.top (BA.head.raise (.cons false false hv .nil)) (jc f _)));simpa only[stepG.apply,zBV,e,e',Vk,zAN,zBG,GStep.after]using t
end
section
variable {P:Program} {F:Array Func} {S:Nat->Bool} {H:FuncId->Code->Code->Prop} {N:Nat} {p:Pi} {w w':World} {b:Frame} {bs:List Frame} {aO:List Frame}
def QS (P:Program) (S:Nat->Bool) (main':Bool) (aO:List Frame):Prop:=aO=[]->main'=true/\∀f,S f=true->P.inits.idxOf? f=none
theorem dB.doReturn (hw:WR P S (KS P S) N p w w') {top:List Frame} (hf:FL P S H p (f::top) (f'::dD)) (main main':Bool) (hb:QS P S main' aO) (hv:VR S p v v'):
 dB P S H N p w w' b bs aO (Go.doReturn P main f (top++b::bs) none v w) (Go.doReturn (ae P F) main' f' (dD++aO) none v' w'):=by
 have h1:=hf.head.kind;have h2:=hf.head.kM;have h3:=hf.head.fn;have h4:=hf.head.Pg;cases hf with
 |one h r=>
  cases aO with
  |nil=>
   obtain⟨rfl,fJ⟩:=hb rfl;have hi:(ae P F).inits.idxOf? f'.fn=none:=by rw[<-h3];exact fJ _ h4
   unfold Go.doReturn;simp only[h1,h2,zDS,hi];exact dB.MB hw hv
  |cons b' wN=>unfold Go.doReturn;rw[h1,h2];exact dB.ret hw hv b' wN
 |cons h t=>
  unfold Go.doReturn;rw[h1,h2];cases t with
  |one h r=>exact dB.go hw (.one (h.finish hv) ⟨(dR _ _).1.trans r.1,by rw[(dR _ _).2];exact r.2⟩)
  |cons h t=>exact dB.go hw (.cons (h.finish hv) t)
def wO:Option Code->Bool
 |none=>true
 |some .ret=>true
 |_=>false
def ib (P:Program) (main:Bool) (fr:Frame) (callers:List Frame) (jump:Option Code) (w:World):GStep:=
 match fr.roundOf with
 |none=>if wO jump then .go {frame:={fr with mode:=.returning},callers,status:=.running,dying:=none} w else .ended (.stuck "exit, goto: no such block or label" (fr.pos P)) w
 |some l=>
  GStep.after (seen P fr.fn ((Instr.endRound l jump).runT P w #[]).2)<|match((Instr.endRound l jump).runT P w #[]).1 with
  |.ok v w=>Go.doReturn P main fr callers none v w
  |.halt _ w=>.ended (.stuck "range over a function: no such loop" (fr.pos P)) w
theorem lA (main:Bool) (f:Frame) (cs:List Frame) (hk:f.kind=.normal) (v:Value) (w:World):gw (Go.doReturn P main f cs none v w)=w:=by
 unfold Go.doReturn;rw[hk];cases cs with
 |nil=>
  simp only;split
  .rfl
  .split<;>rfl
 |cons c cs=>rfl
theorem jd (main:Bool) (h:f.roundOf=none) (cs:List Frame) (jump:Option Code) (w:World):
 ib P main f cs jump w=if wO jump then .go {frame:={f with mode:=.returning},callers:=cs,status:=.running,dying:=none} w else .ended (.stuck "exit, goto: no such block or label" (f.pos P)) w:=by
 unfold ib;split
 .rfl
 .rename_i h2;rw[h]at h2;cases h2
theorem je (main:Bool) {l:Nat} (h:f.roundOf=some l) (cs:List Frame) (jump:Option Code) (w:World):
 ib P main f cs jump w=GStep.after (seen P f.fn ((Instr.endRound l jump).runT P w #[]).2) (match((Instr.endRound l jump).runT P w #[]).1 with
 |.ok v w=>Go.doReturn P main f cs none v w
 |.halt _ w=>.ended (.stuck "range over a function: no such loop" (f.pos P)) w):=by
 unfold ib;split
 .rename_i h2;rw[h]at h2;cases h2
 .rename_i h2;rw[h]at h2;cases h2;rfl
theorem Iy {x y:Option Nat} (h:RR p x y):(x=none/\y=none)\/∃l l',x=some l/\y=some l'/\p l l':=by
 cases h with
 |none=>exact .inl ⟨rfl,rfl⟩
 |some h=>exact .inr ⟨_,_,rfl,rfl,h⟩
theorem dB.leave (hw:WR P S (KS P S) N p w w') {top:List Frame} (hf:FL P S H p (f::top) (f'::dD)) (main main':Bool) (hb:QS P S main' aO) (jump:Option Code) (hj:∀c,jump=some c->codeOk P S c=true)
 (hm:kN m w w') (hd:(gw (ib (ae P F) main' f' (dD++aO) jump w')).drawn<=w'.drawn+m):
 dB P S H N p w w' b bs aO (ib P main f (top++b::bs) jump w) (ib (ae P F) main' f' (dD++aO) jump w'):=by
 have gp:=hf.head;rcases Iy gp.round with⟨h1,h2⟩|⟨l,l',h1,h2,hl⟩
 .rw[jd main h1,jd main' h2];cases hj:wO jump with
  |true=>exact dB.go hw (hf.top (g:={f with mode:=.returning}) (g':={f' with mode:=.returning}) ⟨gp.fn,gp.Pg,gp.tmps,gp.todo,gp.defers,.returning,gp.kind,gp.kM,gp.round,gp.Bz,gp.nd,gp.wide⟩ ⟨rfl,rfl⟩)
  |false=>exact dB.ended ..
 .rw[je main' h2]at hd;rw[je main h1,je main' h2];rw[jQ]at hd
  refine dB.run (SR.endRound hl jump hj) hw hm (ev:=λr es=>seen P f.fn es) (QQ:=λr es=>seen (ae P F) f'.fn es) (λr es e he=>mem_seen he)
   (k:=fun r=>match r with|.ok v w=>Go.doReturn P main f (top++b::bs) none v w|.halt _ w=>.ended (.stuck "range over a function: no such loop" (f.pos P)) w)
   (k':=fun r=>match r with|.ok v w=>Go.doReturn (ae P F) main' f' (dD++aO) none v w|.halt _ w=>.ended (.stuck "range over a function: no such loop" (f'.pos (ae P F))) w)
   hd ?_ ?_ ?_ ?_
  .intro r;cases r with
   |ok v w=>simp only;rw[lA _ _ _ gp.kM];exact zAC _
   |halt=>exact zAC _
  .intro x w1 _;exact⟨_,_,_,rfl⟩
  .intro c n w1 gh x y rb hv _ _;exact dB.doReturn rb.rel (hf.mono (fe _ _ _ _)) main main' hb hv
  .intro c n w1 gh v v' rb hv;exact dB.ended ..
theorem kU.mk' (h:kU P S H p f f') (hl:TL P S (H f.fn) p l l') {ds mU:List Deferred} (hd:DL p ds mU) (FJ:(ds=[]/\mU=[])\/∀a b,¬H f.fn a b):kU P S H p {f with todo:=l,defers:=ds} {f' with todo:=l',defers:=mU}:=
 ⟨h.fn,h.Pg,h.tmps,hl,hd,h.mode,h.kind,h.kM,h.round,h.Bz,FJ,h.wide⟩
theorem DL.append {l l' m m':List Deferred} (h:DL p l l') (k:DL p m m'):DL p (l++m) (l'++m'):=by
 induction h with
 |nil=>exact k
 |cons g _ ih=>exact .cons g ih
end
theorem WR.no {P:Program} {S:Nat->Bool} {K:Kz} {N:Nat} {p:Pi} {w w':World} (h:WR P S K N p w w') {a:Prop} (x:p.l=true):a:=by rw[h.str]at x;cases x
section
variable {P:Program} {F:Array Func} {S:Nat->Bool} {H:FuncId->Code->Code->Prop} {N:Nat} {p:Pi} {w w':World} {b:Frame} {bs:List Frame} {aO:List Frame}
theorem eJ (main:Bool) (h:f.todo=[]) (cs:List Frame) (w:World):stepG.exec P main true f cs none w=ib P main f cs none w:=by
 obtain⟨fn,tmps,todo,ds,mode,kind,ro⟩:=f;simp only at h;subst h;cases ro<;>rfl
theorem eK (main:Bool) (h:f.todo=.code .ret::k) (cs:List Frame) (w:World):stepG.exec P main true f cs none w=ib P main f cs (some .ret) w:=by
 obtain⟨fn,tmps,todo,ds,mode,kind,ro⟩:=f;simp only at h;subst h;cases ro<;>rfl
theorem d9 (main:Bool) (h:f.todo=.code (.exit id)::k) (cs:List Frame) (w:World):
 stepG.exec P main true f cs none w=match exitTo id k with|none=>ib P main f cs (some (.exit id)) w|some t=>.go {frame:={f with todo:=t},callers:=cs,status:=.running,dying:=none} w:=by
 obtain⟨fn,tmps,todo,ds,mode,kind,ro⟩:=f;simp only at h;subst h;cases ro<;>(unfold stepG.exec;dsimp only;cases exitTo id k<;>rfl)
theorem ee (main:Bool) (h:f.todo=.code (.goto id)::k) (cs:List Frame) (w:World):
 stepG.exec P main true f cs none w=match gotoIn id k with|none=>ib P main f cs (some (.goto id)) w|some t=>.go {frame:={f with todo:=t},callers:=cs,status:=.running,dying:=none} w:=by
 obtain⟨fn,tmps,todo,ds,mode,kind,ro⟩:=f;simp only at h;subst h;cases ro<;>(unfold stepG.exec;dsimp only;cases gotoIn id k<;>rfl)
theorem dB.exec (hc:Closed P F S H) (hw:WR P S (KS P S) N p w w') (hg:iH P S p) {top:List Frame} (hf:FL P S H p (f::top) (f'::dD)) (QT:∀c c' k k',f.todo=.code c::k->f'.todo=.code c'::k'->¬H f.fn c c') (i6:f'.mode=.run->¬pz S f') (rc:f'.mode=.run) (main main':Bool) (hb:QS P S main' aO)
 (hm:kN m w w') (hd:(gw (stepG.exec (ae P F) main' true f' (dD++aO) none w')).drawn<=w'.drawn+m):
 dB P S H N p w w' b bs aO (stepG.exec P main true f (top++b::bs) none w) (stepG.exec (ae P F) main' true f' (dD++aO) none w'):=by
 have gp:=hf.head
 have yO:∀{l l':List Item},TL P S (H f.fn) p l l'->dB P S H N p w w' b bs aO (.go {frame:={f with todo:=l},callers:=top++b::bs,status:=.running,dying:=none} w) (.go {frame:={f' with todo:=l'},callers:=dD++aO,status:=.running,dying:=none} w'):=
  λh=>dB.go hw (hf.top (gp.BW h) ⟨rfl,rfl⟩)
 have ht:=gp.todo;have ba:=gp.eval hg;generalize h1:f.todo=t at ht;generalize h2:f'.todo=t' at ht;cases ht with
 |nil=>
  rw[eJ main' h2]at hd;rw[eJ main h1,eJ main' h2];exact dB.leave hw hf main main' hb none (λc h=>by cases h) hm hd
 | @cons i i' k k' hi ht=>
   cases hi with
   | @code c c' Pj=>
     cases Pj with
     |hole hh=>exact absurd hh (QT _ _ _ _ h1 h2)
     |seq ha hb=>unfold stepG.exec;simp only[h1,h2];exact yO (.cons (.code ha) (.cons (.code hb) ht))
     |block id ha=>unfold stepG.exec;simp only[h1,h2];exact yO (.cons (.code ha) (.cons (.inBlock id) ht))
     |loop ha=>unfold stepG.exec;simp only[h1,h2];exact yO (.cons (.code ha) (.cons (.inLoop ha) ht))
     | @cond x a a' c c' hx ha hb=>
       have hx:=ba.at hx;unfold stepG.exec;simp only[h1,h2];revert hx;generalize f.eval x=v;generalize f'.eval x=v';intro hx;cases hx<;>first|exact dB.ended .. |skip
       rename_i bo;refine yO (.cons (.code ?_) ht);cases bo
       .exact hb
       .exact ha
     |same gq H5=>
      cases c with
      |ret=>
       rw[eK main' h2]at hd;rw[eK main h1,eK main' h2];exact dB.leave hw hf main main' hb (some .ret) (λc h=>by cases h;rfl) hm hd
      |exit id=>
       rw[d9 main' h2]at hd;rw[d9 main h1,d9 main' h2];rcases B6 id ht with⟨e1,e2⟩|⟨j,j',e1,e2,hj⟩
       .rw[e2]at hd;rw[e1,e2];exact dB.leave hw hf main main' hb (some (.exit id)) (λc h=>by cases h;rfl) hm hd
       .rw[e1,e2];exact yO hj
      |goto id=>
       rw[ee main' h2]at hd;rw[ee main h1,ee main' h2];rcases B8 id ht with⟨e1,e2⟩|⟨j,j',e1,e2,hj⟩
       .rw[e2]at hd;rw[e1,e2];exact dB.leave hw hf main main' hb (some (.goto id)) (λc h=>by cases h;rfl) hm hd
       .rw[e1,e2];exact yO hj
      |skip=>
       unfold stepG.exec;simp only[h1,h2];exact yO ht
      |label l=>
       unfold stepG.exec;simp only[h1,h2];exact yO ht
      |seq a c=>
       simp only[codeOk,cY,zAE]at gq H5;unfold stepG.exec;simp only[h1,h2];exact yO (.cons (.code (.same gq.1 (H5.imp And.left λx=>x))) (.cons (.code (.same gq.2 (H5.imp And.right λx=>x))) ht))
      |cond x a c=>
       simp only[codeOk,cY,zAE]at gq H5;have hx:=ba.at gq.1.1;unfold stepG.exec;simp only[h1,h2];revert hx;generalize f.eval x=v;generalize f'.eval x=v';intro hx;cases hx<;>first|exact dB.ended .. |skip
       rename_i bo;refine yO (.cons (.code ?_) ht);cases bo
       .exact .same gq.2 (H5.imp And.right λx=>x)
       .exact .same gq.1.2 (H5.imp And.left λx=>x)
      |block id c=>
       unfold stepG.exec;simp only[h1,h2];exact yO (.cons (.code (.same gq H5)) (.cons (.inBlock id) ht))
      |loop c=>
       unfold stepG.exec;simp only[h1,h2];exact yO (.cons (.code (.same gq H5)) (.cons (.inLoop (.same gq H5)) ht))
      |scope c=>
       unfold stepG.exec;simp only[h1,h2];exact yO (.cons (.code (.same gq H5)) (.cons (.inScope gq H5) ht))
      |refuse why=>unfold stepG.exec;simp only[h1,h2];exact dB.ended ..
      |region id ops draw=>
       have rZ:∀o∈ops,(nY P S o.op||fN S o.op)=true:=λo ho=>(Array.all_eq_true_iff_forall_mem.1 gq) o ho;unfold stepG.exec at hd⊢;simp only[h1,h2]at hd⊢;cases draw with
       |false=>exact yO (.cons (.inRegion _ rZ) ht)
       |true=>
        simp only[zEB,zAN,zBG,choose,Sem.run,Question.forced,Question.cut]at hd⊢
        have BO:0<m:=by
         simp only[gw]at hd;omega
        have ht0:=hm 0 BO (.order f'.fn id);simp only[zDH]at ht0;have ht1:w.tape w.drawn (.order f.fn id)=w'.tape w'.drawn (.order f'.fn id):=by rw[gp.fn];exact ht0
        rw[ht1];have jJ:WR P S (KS P S) N p {w with drawn:=w.drawn+1} {w' with drawn:=w'.drawn+1}:=⟨hw.inj,hw.blk,hw.low,hw.fix,hw.fM,hw.jL,hw.str,hw.uk⟩
        have D7:cz P S (KS P S) N p w w' 0 1 {w with drawn:=w.drawn+1} {w' with drawn:=w'.drawn+1}:=
         ⟨by rw[bD];exact jJ,rfl,rfl,rfl,rfl,rfl,rfl,rfl,rfl,λ_ _ _=>rfl⟩
        refine .inr (.inr ⟨0,1,_,_,#[],#[],D7,by simp,.inl ⟨_,_,top,dD,?_,rfl,rfl⟩⟩);rw[bD];exact hf.top (gp.BW (.cons (.inRegion _ rZ) ht)) ⟨rfl,rfl⟩
      |rangeFunc x ps a c=>
       simp only[codeOk,zAE]at gq;unfold stepG.exec at hd⊢;simp only[h1,h2]at hd⊢;rw[jQ]at hd;have i6:∀a b,¬H f.fn a b:=H5.resolve_left (by simp[cY]);have hz:KS P S (.label (100000+f.fn)):=MD ((hc.Bz f.fn gp.Pg).1 i6)
       refine dB.run (SR.enterLoop gp.fn gp.Pg hz gp.tmps ps gq.1.2 gq.2 gp.round) hw hm (ev:=λr es=>seen P f.fn es) (QQ:=λr es=>seen (ae P F) f'.fn es) (λr es e he=>mem_seen he)
        (k:=λr=>match r with
          |.ok (l,mark) w=>stepG.apply P true {f with todo:=.inRangeFunc l::k,defers:=mark++f.defers} (top++b::bs) none
             (do let d<-resolve (Frame.eval {f with todo:=.inRangeFunc l::k,defers:=mark++f.defers}) {callee:=.value x,args:=#[.const (.func (.yield l) #[] #[])],argTypes:=#[]} 0;invoke d.target d.args) w
          |.halt _ w=>.ended (.stuck "range over a function: no such loop" (f.pos P)) w)
        (k':=λr=>match r with
          |.ok (l,mark) w=>stepG.apply (ae P F) true {f' with todo:=.inRangeFunc l::k',defers:=mark++f'.defers} (dD++aO) none
             (do let d<-resolve (Frame.eval {f' with todo:=.inRangeFunc l::k',defers:=mark++f'.defers}) {callee:=.value x,args:=#[.const (.func (.yield l) #[] #[])],argTypes:=#[]} 0;invoke d.target d.args) w
          |.halt _ w=>.ended (.stuck "range over a function: no such loop" (f'.pos (ae P F))) w)
        ?_ ?_ ?_ ?_ ?_
       .exact hd
       .intro r;cases r with
        |ok x w1=>exact zAP (na (ae P F) _ w1 #[]) (qo ..)
        |halt=>exact zAC _
       .intro x w1 _;exact⟨_,_,_,rfl⟩
       .intro cc n w1 gh y y' rb hy D7 Ee;obtain⟨l,mark⟩:=y;obtain⟨l',sg⟩:=y';have hle:=fe p w.heap.size w'.heap.size cc;have Vl:=(gp.mono hle).mk' (.cons (.nZ hy.1 i6) (ht.mono hle)) (hy.2.append (gp.defers.mono hle)) (.inr i6);refine dB.apply hc rb.rel ((hf.mono hle).top Vl ⟨rfl,rfl⟩) D7 ?_ Ee;refine SR.ly hc.ni ?_ ?_
        .exact(Vl.eval (hg.mono hle)).at gq.1.1
        .have:=AR.one (S:=S) (VR.yield (S:=S) hy.1);simpa [Frame.eval]using this
       .intro cc n w1 gh v v' rb hv;exact dB.ended ..
   | @inBlock id=>unfold stepG.exec;simp only[h1,h2];exact yO ht
   | @inScope c gq _=>unfold stepG.exec;simp only[h1,h2];exact yO ht
   | @inLoop c c' Pj=>unfold stepG.exec;simp only[h1,h2];exact yO (.cons (.code Pj) (.cons (.inLoop Pj) ht))
   | @nZ l l' hl _=>unfold stepG.exec;simp only[h1,h2];exact dB.ended ..
   | @begin=>
     unfold stepG.exec at hd⊢;simp only[h1,h2]at hd⊢;refine dB.apply hc hw hf hm ?_ hd;rcases Iy gp.round with⟨e1,e2⟩|⟨l,l',e1,e2,hl⟩
     .rw[e1,e2];exact(SR.stuck (α:=Unit) (β:=Unit) (Q:=QE Unit)).aD λq _ hq=>SR.pure .skip
     .rw[e1,e2];exact(SR.beginRound hl).aD λq _ hq=>SR.pure .skip
   | @jP l l' hl i6=>
     unfold stepG.exec at hd⊢;simp only[h1,h2]at hd⊢;rw[jQ]at hd
     refine dB.run (SR.endLoop hl) hw hm (ev:=λr es=>seen P f.fn es) (QQ:=λr es=>seen (ae P F) f'.fn es) (λr es e he=>mem_seen he)
      (k:=λr=>match r with
        |.ok jump w=>.go {frame:={f with todo:=(jump.map Item.code).toList++k},callers:=top++b::bs,status:=.running,dying:=none} w
        |.halt (.panic v) w=>.go {frame:=f.raise [{v,recovered:=false}],callers:=top++b::bs,status:=.running,dying:=none} w
        |.halt _ w=>.ended (.stuck "range over a function: no such loop" (f.pos P)) w)
      (k':=λr=>match r with
        |.ok jump w=>.go {frame:={f' with todo:=(jump.map Item.code).toList++k'},callers:=dD++aO,status:=.running,dying:=none} w
        |.halt (.panic v) w=>.go {frame:=f'.raise [{v,recovered:=false}],callers:=dD++aO,status:=.running,dying:=none} w
        |.halt _ w=>.ended (.stuck "range over a function: no such loop" (f'.pos (ae P F))) w)
      hd ?_ ?_ ?_ ?_
     .intro r;cases r with
      |ok x w1=>exact zAC _
      |halt x w1=>cases x<;>exact zAC _
     .intro x w1 hx;cases x<;>first|exact⟨_,_,_,rfl⟩|exact absurd hx id
     .intro cc n w1 gh y y' rb hy D7 Ee;have hle:=fe p w.heap.size w'.heap.size cc;obtain⟨rfl,hy⟩:=hy;refine dB.go rb.rel ((hf.mono hle).top ((gp.mono hle).BW ?_) ⟨rfl,rfl⟩);cases y with
      |none=>exact ht.mono hle
      |some c=>exact .cons (.code (.same (hy c rfl) (.inr i6))) (ht.mono hle)
     .intro cc n w1 gh v v' rb hv;have hle:=fe p w.heap.size w'.heap.size cc;exact dB.go rb.rel ((hf.mono hle).top ((gp.mono hle).raise (.cons false false hv .nil)) (jc f _))
   | @inRegion ops is rZ=>
     cases is with
     |nil=>unfold stepG.exec;simp only[h1,h2];exact yO ht
     |cons i is=>
      unfold stepG.exec at hd⊢;simp only[h1,h2]at hd⊢;have hy:∀j,yielded ops f'.tmps j=yielded ops f.tmps j:=λj=>(qn ops gp.tmps j).symm;have hyy:(yielded ops f'.tmps)=(yielded ops f.tmps):=funext hy;rw[hyy]at hd⊢;split at hd
      .rename_i lB;rw[zAI lB,zAI lB];have Iz:f.oper?=ops[i]?:=by unfold Frame.oper?;rw[h1]
       have Ef:f'.oper?=ops[i]?:=by unfold Frame.oper?;rw[h2]
       unfold stepG.oper at hd⊢;rw[Iz,Ef];rw[Ef]at hd;cases ho:ops[i]? with
       |none=>exact dB.ended ..
       |some o=>
        rw[ho]at hd
        have QU:nY P S o.op=true:=by
         have h0:=rZ o (zDN ho);rw[zBN]at h0;refine h0.resolve_right λh3=>i6 rc ⟨rc,o,ops,i,is,_,h2,ho,h3,?_⟩;rw[hyy];rw[ho]at lB;simpa using lB
        have FJ:∀c,o.op≠ .defer c:=by
         intro c H6;rw[H6]at QU;simp[nY]at QU
        have key:∀(P:Program) (fr:Frame) (cs:List Frame) (w:World),(match fr.roundOf,o.op with
         |some l,.defer c=>stepG.apply P true fr cs none (do Instr.deferInRound l (<-resolve fr.eval c o.type);pure .skip) w
         |_,_=>stepG.apply P true fr cs none (execOp fr.eval o) w)=stepG.apply P true fr cs none (execOp fr.eval o) w:=by
         intro P fr cs w;split
         .rename_i hx;exact absurd hx (FJ _)
         .rfl
        have Zh:(gw (stepG.apply (ae P F) true f' (dD++aO) none (execOp f'.eval o) w')).drawn<=w'.drawn+m:=by
         rw[<-key (ae P F) f' (dD++aO) w'];exact hd
        have e1:=key P f (top++b::bs) w;have e2:=key (ae P F) f' (dD++aO) w';refine Eq.mpr (congr (zBK (dB P S H N p w w' b bs aO) e1) e2) ?_;exact dB.apply hc hw hf hm (SR.execOp hw.no hc.ip hc.dQ hc.ni ba o QU hw.no hw.no) Zh
      .rename_i lB;rw[zAH lB,zAH lB];exact dB.go hw (hf.top (gp.finish VR.undef) (dR f _))
end
section
variable {P:Program} {F:Array Func} {S:Nat->Bool} {H:FuncId->Code->Code->Prop} {N:Nat} {p:Pi} {w w':World} {b:Frame} {bs:List Frame} {aO:List Frame}
theorem od {H:Code->Code->Prop} (h:TL P S H p l l'):∀d x r s k,l≠ .call d x r s::k/\l'≠ .call d x r s::k:=by
 intro d x r s k;cases h with
 |nil=>exact⟨by simp,by simp⟩
 |cons hi ht=>cases hi<;>exact⟨by simp,by simp⟩
theorem nk (h:∀d x r s k,f.todo≠ .call d x r s::k):f.catches P=false:=by
 unfold Frame.catches;split
 .rename_i hh;exact absurd hh (h _ _ _ _ _)
 .rfl
theorem dB.unwind (hc:Closed P F S H) (hw:WR P S (KS P S) N p w w') {top:List Frame} (hf:FL P S H p (f::top) (f'::dD)) (main main':Bool) (hb:QS P S main' aO)
 (hm:kN m w w') (hd:(gw (Go.unwind (ae P F) main' f' (dD++aO) none w')).drawn<=w'.drawn+m):
 dB P S H N p w w' b bs aO (Go.unwind P main f (top++b::bs) none w) (Go.unwind (ae P F) main' f' (dD++aO) none w'):=by
 have gp:=hf.head;have H7:=gp.defers;generalize h1:f.defers=t at H7;generalize h2:f'.defers=t' at H7;unfold Go.unwind at hd⊢;rw[h1,h2];rw[h2]at hd;cases H7 with
 | @cons r r' l l' hr hl=>
   simp only[jQ]at hd⊢
   refine dB.run (SR.takeDeferred hr) hw hm (ev:=λr es=>seen P f.fn es) (QQ:=λr es=>seen (ae P F) f'.fn es) (λr es e he=>mem_seen he)
    (k:=fun r=>match r with|.ok calls w=>.go {frame:={f with defers:=calls++l},callers:=top++b::bs,status:=.running,dying:=none} w|.halt _ w=>.ended (.stuck "the deferred calls of a range-over-func loop have been taken" (f.pos P)) w)
    (k':=fun r=>match r with|.ok calls w=>.go {frame:={f' with defers:=calls++l'},callers:=dD++aO,status:=.running,dying:=none} w|.halt _ w=>.ended (.stuck "the deferred calls of a range-over-func loop have been taken" (f'.pos (ae P F))) w)
    hd ?_ ?_ ?_ ?_
   .intro r;cases r<;>exact zAC _
   .intro x w1 _;exact⟨_,_,_,rfl⟩
   .intro c n w1 gh y y' rb hy _ _;obtain⟨rfl,rfl⟩:=hy;have hle:=fe p w.heap.size w'.heap.size c;exact dB.go rb.rel ((hf.mono hle).top ((gp.mono hle).mk' (gp.todo.mono hle) (hl.mono hle) (.inr (gp.nd.resolve_left λx=>by rw[h1]at x;cases x.1))) ⟨rfl,rfl⟩)
   .intro c n w1 gh v v' rb hv;exact dB.ended ..
 |nil=>
  simp only at hd⊢;have rc:=gp.mode;generalize g1:f.mode=o at rc;generalize g2:f'.mode=o' at rc;rw[g2]at hd;cases rc with
  |run=>exact dB.ended ..
  | @panicking l l' hl=>
    simp only;have n1:=nk (P:=P) (f:=f) λd x r s k=>(od gp.todo d x r s k).1;have n2:=nk (P:=ae P F) (f:=f') λd x r s k=>(od gp.todo d x r s k).2;simp only[n1,n2,zAN,zBG];cases hf with
    |one h r=>exact dB.raised hl ..
    |cons h t=>
     cases t with
     |one h r=>exact dB.go hw (.one (h.raise hl) ⟨(jc _ _).1.trans r.1,by rw[(jc _ _).2];exact r.2⟩)
     |cons h t=>exact dB.go hw (.cons (h.raise hl) t)
  |returning=>
   simp only at hd⊢;rw[<-gp.fn]at hd⊢;rcases hc.body f.fn gp.Pg with⟨e1,e2⟩|⟨fn,lh,_,_,e1,e2,_,_,_,_,_,_,e3⟩
   .rw[e1,e2];exact dB.doReturn hw hf main main' hb (gp.tmps.getD 0 VR.undef)
   .rw[e1,e2];rw[e2]at hd;simp only[jQ]at hd⊢
    refine dB.run (SR.results e3 gp.tmps) hw hm (ev:=λr es=>seen P f.fn es) (QQ:=λr es=>seen (ae P F) f.fn es) (λr es e he=>mem_seen he)
     (k:=fun r=>match r with|.ok v w=>Go.doReturn P main f (top++b::bs) none v w|.halt (.stuck s) w=>.ended (.stuck s (f.pos P)) w|.halt _ w=>.ended (.stuck "return: the result variables cannot be read" (f.pos P)) w)
     (k':=fun r=>match r with|.ok v w=>Go.doReturn (ae P F) main' f' (dD++aO) none v w|.halt (.stuck s) w=>.ended (.stuck s (f'.pos (ae P F))) w|.halt _ w=>.ended (.stuck "return: the result variables cannot be read" (f'.pos (ae P F))) w)
     hd ?_ ?_ ?_ ?_
    .intro r;cases r with
     |ok v w=>simp only;rw[lA _ _ _ gp.kM];exact zAC _
     |halt x=>cases x<;>exact zAC _
    .intro x w1 hx;cases x<;>exact⟨_,_,_,rfl⟩
    .intro c n w1 gh x y rb hv _ _;exact dB.doReturn rb.rel (hf.mono (fe _ _ _ _)) main main' hb hv
    .intro c n w1 gh v v' rb hv;exact dB.ended ..
theorem dB.step (hc:Closed P F S H) (hw:WR P S (KS P S) N p w w') (hg:iH P S p) {top:List Frame} (hf:FL P S H p (f::top) (f'::dD)) (QT:∀c c' k k',f.mode=.run->f.todo=.code c::k->f'.todo=.code c'::k'->¬H f.fn c c') (i6:¬pz S f') (main main':Bool) (hb:QS P S main' aO)
 (hm:kN m w w') (hd:(gw (stepG (ae P F) main' {frame:=f',callers:=dD++aO,status:=.running,dying:=none} w')).drawn<=w'.drawn+m):
 dB P S H N p w w' b bs aO (stepG P main {frame:=f,callers:=top++b::bs,status:=.running,dying:=none} w)
  (stepG (ae P F) main' {frame:=f',callers:=dD++aO,status:=.running,dying:=none} w'):=by
 have rc:=hf.head.mode
 have aW:∀(P:Program) (main:Bool) (f:Frame) (cs:List Frame) (w:World),f.mode=.run->stepG P main {frame:=f,callers:=cs,status:=.running,dying:=none} w=stepG.exec P main true f cs none w:=by
  intro P main f cs w h;unfold stepG;simp only[h]
 have hun:∀(P:Program) (main:Bool) (f:Frame) (cs:List Frame) (w:World),f.mode≠ .run->stepG P main {frame:=f,callers:=cs,status:=.running,dying:=none} w=Go.unwind P main f cs none w:=by
  intro P main f cs w h;unfold stepG;simp only
 by_cases h:f.mode=.run
 .have h':f'.mode=.run:=by
   rw[h]at rc;generalize f'.mode=o at rc;cases rc;rfl
  rw[aW _ _ _ _ _ h']at hd;rw[aW _ _ _ _ _ h,aW _ _ _ _ _ h'];exact dB.exec hc hw hg hf (λc c' k k'=>QT c c' k k' h) (λ_=>i6) h' main main' hb hm hd
 .have h':f'.mode≠ .run:=by
   intro e;rw[e]at rc;generalize hx:f.mode=o at rc;cases rc;exact h hx
  rw[hun _ _ _ _ _ h']at hd;rw[hun _ _ _ _ _ h,hun _ _ _ _ _ h'];exact dB.unwind hc hw hf main main' hb hm hd
end
def new (w w1:World):Nat->Prop:=λr=>w.heap.size<=r/\r<w1.heap.size
def aG (kn:Nat->Prop) (w w1:World):Nat->Prop:=λr=>kn r\/new w w1 r
structure Env (kn:Nat->Prop) (w w2:World):Prop where
 size:w.heap.size<=w2.heap.size
 same:∀r,kn r->w2.heap[r]?=w.heap[r]?
 os:w2.os=w.os
 out:w2.output=w.output
theorem Env.refl (kn:Nat->Prop) (w:World):Env kn w w:=⟨zAC _,λ_ _=>rfl,rfl,rfl⟩
theorem Env.trans {w:World} (h:Env kn w w1) (k:Env kn w1 w2):Env kn w w2:=
 ⟨zAP h.1 k.1,λr hr=>(k.2 r hr).trans (h.2 r hr),k.os.trans h.os,k.out.trans h.out⟩
def Eg (kn own:Nat->Prop) (e:Event):Prop:=
 e=noRoomEvent\/(e.sync=false/\∃r,kn r/\((∃a:Addr,e.loc=.cell a/\a.block=r)\/e.loc=.obj r)/\(e.write=true->own r))
structure Fair (kn own:Nat->Prop) (w w1:World) (es:Array Event):Prop where
 size:w.heap.size<=w1.heap.size
 others:∀r,r<w.heap.size->¬own r->w1.heap[r]?=w.heap[r]?
 os:w1.os=w.os
 out:w1.output=w.output
 tape:w1.tape=w.tape
 drawn:w.drawn<=w1.drawn
 ev:∀e∈es,Eg (aG kn w w1) (aG own w w1) e
abbrev iz (f:Frame) (cs:List Frame):Goroutine:={frame:=f,callers:=cs,status:=.running,dying:=none}
abbrev oe:=(Nat->Prop)->(Nat->Prop)->Value->World->Prop
abbrev kV:=(Nat->Prop)->(Nat->Prop)->Frame->World->Prop
abbrev dS:=(Nat->Prop)->(Nat->Prop)->Frame->World->Value->World->(Nat->Prop)->(Nat->Prop)->Prop
abbrev Ul:=(Nat->Prop)->(Nat->Prop)->Frame->List Frame->World->Prop
def Body (Q:Program) (main:Bool) (base:List Frame) (Fin:oe) (HA:kV) (HP:dS) (I:Ul):Ul:=λkn own f top w=>
 ∀w2,Env kn w w2->
  (∃w3 es f2 og,stepG Q main (iz f (top++base)) w2=.go (iz f2 (og++base)) w3 es/\Fair kn own w2 w3 es/\I (aG kn w2 w3) (aG own w2 w3) f2 og w3)\/
  (∃w3 es v b bs,base=b::bs/\stepG Q main (iz f (top++base)) w2=.go (iz (b.finish v) bs) w3 es/\Fair kn own w2 w3 es/\Fin (aG kn w2 w3) (aG own w2 w3) v w3)\/
  (∃w3 es v,base=[]/\stepG Q main (iz f (top++base)) w2=.ended (.done v) w3 es/\Fair kn own w2 w3 es/\Fin (aG kn w2 w3) (aG own w2 w3) v w3)\/
  (HA kn own f w2/\∃c rest,top=c::rest/\∀v w3 eS bt,HP kn own f w2 v w3 eS bt->I eS bt (c.finish v) rest w3)
def CT (Q:Program) (main:Bool) (base:List Frame) (Fin:oe) (HA:kV) (HP:dS):Ul:=λkn own f top w=>
 ∀I:Ul,(∀kn own f top w,Body Q main base Fin HA HP I kn own f top w->I kn own f top w)->I kn own f top w
section
variable {Q:Program} {main:Bool} {base:List Frame} {Fin:oe} {HA:kV} {HP:dS}
theorem Body.mono {I J:Ul} (h:∀kn own f top w,I kn own f top w->J kn own f top w) {top:List Frame} {w:World} (x:Body Q main base Fin HA HP I kn own f top w):Body Q main base Fin HA HP J kn own f top w:=by
 intro w2 he;rcases x w2 he with⟨w3,es,f2,og,h1,h2,h3⟩|x|x|⟨h1,c,rest,hc,h2⟩
 .exact .inl ⟨w3,es,f2,og,h1,h2,h _ _ _ _ _ h3⟩
 .exact .inr (.inl x)
 .exact .inr (.inr (.inl x))
 .exact .inr (.inr (.inr ⟨h1,c,rest,hc,λv w3 eS bt hp=>h _ _ _ _ _ (h2 v w3 eS bt hp)⟩))
theorem CT.mk {kn own:Nat->Prop} {f:Frame} {top:List Frame} {w:World} (h:Body Q main base Fin HA HP (CT Q main base Fin HA HP) kn own f top w):CT Q main base Fin HA HP kn own f top w:=
 λI hI=>hI _ _ _ _ _ (h.mono λ_ _ _ _ _ x=>x I hI)
theorem CT.ind {I:Ul} (hI:∀kn own f top w,Body Q main base Fin HA HP (λkn own f top w=>I kn own f top w/\CT Q main base Fin HA HP kn own f top w) kn own f top w->I kn own f top w)
 {top:List Frame} {w:World} (h:CT Q main base Fin HA HP kn own f top w):I kn own f top w:=
 (h (λkn own f top w=>I kn own f top w/\CT Q main base Fin HA HP kn own f top w) λ_ _ _ _ _ x=>⟨hI _ _ _ _ _ x,CT.mk (x.mono λ_ _ _ _ _ y=>y.2)⟩).1
end
def jR (p:Pi):Nat->Prop:=λr'=>∃r,p r r'
def bU (N:Nat) (p:Pi):Nat->Prop:=λr'=>∃r,p r r'/\N<=r
theorem ME (p:Pi) (L C c:Nat):jR (ext p L C c)=λr'=>jR p r'\/(C<=r'/\r'<C+c):=by
 funext r';apply propext;constructor
 .rintro⟨r,h|⟨k,hk,h1,h2⟩⟩
  .exact .inl ⟨r,h⟩
  .exact .inr ⟨by omega,by omega⟩
 .rintro(⟨r,h⟩|⟨h1,h2⟩)
  .exact⟨r,.inl h⟩
  .exact⟨L+(r'-C),.inr ⟨r'-C,by omega,rfl,by omega⟩⟩
theorem FK {N:Nat} (p:Pi) {L:Nat} (hN:N<=L) (C c:Nat):bU N (ext p L C c)=λr'=>bU N p r'\/(C<=r'/\r'<C+c):=by
 funext r';apply propext;constructor
 .rintro⟨r,h|⟨k,hk,h1,h2⟩,hr⟩
  .exact .inl ⟨r,h,hr⟩
  .exact .inr ⟨by omega,by omega⟩
 .rintro(⟨r,h,hr⟩|⟨h1,h2⟩)
  .exact⟨r,.inl h,hr⟩
  .exact⟨L+(r'-C),.inr ⟨r'-C,by omega,rfl,by omega⟩,by omega⟩
section
variable {P:Program} {S:Nat->Bool} {N:Nat} {p:Pi}
theorem WR.env {w:World} (h:WR P S (KS P S) N p lw w) (he:Env (jR p) w w2):WR P S (KS P S) N p lw w2:=
 ⟨h.inj,λr r' hr=>by
   obtain⟨o,o',h1,h2,h3⟩:=h.blk r r' hr;exact⟨o,o',h1,(he.2 r' ⟨r,hr⟩).trans h2,h3⟩,h.low,h.fix,h.fM,zAP h.jL he.1,h.str,h.uk⟩
theorem WR.tape {w:World} (h:WR P S (KS P S) N p lw w) (T:Nat->Question->Nat) (d:Nat):WR P S (KS P S) N p {lw with tape:=T,drawn:=d} w:=
 ⟨h.inj,h.blk,h.low,h.fix,h.fM,h.jL,h.str,h.uk⟩
theorem cz.fair {w Zi:World} (hw:WR P S (KS P S) N p lw w) (h:cz P S (KS P S) N p lw w c n Zi w1) (he:∀e∈es,LN N (ext p lw.heap.size w.heap.size c) e):
 Fair (jR p) (bU N p) w w1 es/\jR (ext p lw.heap.size w.heap.size c)=aG (jR p) w w1/\bU N (ext p lw.heap.size w.heap.size c)=aG (bU N p) w w1:=by
 have e1:jR (ext p lw.heap.size w.heap.size c)=aG (jR p) w w1:=by
  rw[ME];unfold aG new;rw[h.li]
 have e2:bU N (ext p lw.heap.size w.heap.size c)=aG (bU N p) w w1:=by
  rw[FK p hw.low];unfold aG new;rw[h.li]
 refine⟨⟨by rw[h.li];omega,λr hr hn=>h.others r hr λs hs=>?_,h.os',h.QC,h.D6,by rw[h.lj];omega,λe hx=>?_⟩,e1,e2⟩
 .rcases zCS s N with az|y6
  .exact az
  .exact absurd ⟨s,hs,y6⟩ hn
 .rw[<-e1,<-e2];rcases he e hx with h0|⟨h1,r,r',h2,h3,h4⟩
  .exact .inl h0
  .exact .inr ⟨h1,r',⟨r,h2⟩,h3,λzk=>⟨r,h2,h4 zk⟩⟩
end
def Base (P:Program):Frame:={fn:=P.funcs.size,tmps:=#[],todo:=[.extern "" #[],.code (.refuse "")],defers:=[⟨.nil,#[]⟩],mode:=.run,kind:=.normal}
theorem dO (P:Program) (v:Value):(Base P).finish v={fn:=P.funcs.size,tmps:=#[v],todo:=[.code (.refuse "")],defers:=[⟨.nil,#[]⟩],mode:=.run,kind:=.normal}:=rfl
theorem gz (P:Program) (v:Value) (w:World):∃o w1,step P (lone ((Base P).finish v) [] w)=.ended o w1:=⟨_,_,step_lone_ended (by rw[dO];rfl)⟩
theorem fw (P:Program) (ch:List PanicEntry) (w:World):∃o w1,step P (lone ((Base P).raise ch) [] w)=.ended o w1:=⟨_,_,step_lone_ended (by rfl)⟩
theorem fh {cs ds:List Frame} {w v:World} (h:lone f cs w=lone g ds v):f=g/\cs=ds/\w=v:=by
 have h1:(lone f cs w).gs[0]! =(lone g ds v).gs[0]!:=by rw[h]
 have h2:(lone f cs w).world=(lone g ds v).world:=by rw[h]
 have h3:(iz f cs)=(iz g ds):=h1;simp only[Goroutine.mk.injEq]at h3;exact⟨h3.1,h3.2.1,h2⟩
def Alike (w w':World):Prop:=∀r:Nat,w'.heap[r]?=w.heap[r]? \/((∃d,w.heap[r]?=some (Obj.deferred d))/\∃d,w'.heap[r]?=some (Obj.deferred d))
theorem Alike.refl (w:World):Alike w w:=λ_=>.inl rfl
theorem Alike.trans {a b c:World} (h:Alike a b) (k:Alike b c):Alike a c:=λr=>by
 rcases k r with k|⟨⟨d,k1⟩,k2⟩
 .rcases h r with h|⟨h1,d,h2⟩
  .exact .inl (k.trans h)
  .exact .inr ⟨h1,d,k.trans h2⟩
 .rcases h r with h|⟨h1,_⟩
  .exact .inr ⟨⟨d,h▸k1⟩,k2⟩
  .exact .inr ⟨h1,k2⟩
theorem si (P:Program) (n:Nat) (m m1:Machine) (h:runN P n m=.next m1):runN P (n+1) m=step P m1:=by
 rw[runN_add,h];simp only[runN];split<;>simp_all
section
variable {P:Program} {S:Nat->Bool} {H:FuncId->Code->Code->Prop} {N:Nat} {p:Pi}
def FD (P:Program) (S:Nat->Bool) (H:FuncId->Code->Code->Prop) (p:Pi) (g:Frame):Prop:=(∃d,DL p g.defers d)/\∀d x r s k,g.todo≠ .call d x r s::k
theorem FL.fd {l l':List Frame} (h:FL P S H p l l'):∀g∈l,FD P S H p g:=by
 induction h with
 |one h r=>intro g hg;obtain rfl:g=_:=by simpa using hg
           exact⟨⟨_,h.defers⟩,λd x r s k=>(od h.todo d x r s k).1⟩
 |cons h t ih=>
  intro g hg;rcases zAS.1 hg with rfl|hg
  .exact⟨⟨_,h.defers⟩,λd x r s k=>(od h.todo d x r s k).1⟩
  .exact ih g hg
theorem wP (g:Frame) (ch:List PanicEntry):(g.raise ch).defers=g.defers/\(g.raise ch).todo=g.todo:=by
 unfold Frame.raise;split<;>exact⟨rfl,rfl⟩
theorem raise_mode (g:Frame) {ch:List PanicEntry} {e:PanicEntry} (h:ch.head?=some e):∃Eh,(g.raise ch).mode=.panicking Eh/\Eh.head?=some e:=by
 unfold Frame.raise;split
 .refine⟨_,rfl,?_⟩;cases ch with
  |nil=>cases h
  |cons x l=>exact h
 .exact⟨_,rfl,h⟩
theorem sj:∀(n:Nat) (h:Frame) (hs:List Frame) (v w2:World) (ch:List PanicEntry) (e0:PanicEntry),h.mode=.panicking ch->ch.head?=some e0->FD P S H p h->(∀g∈hs,FD P S H p g)->
 WR P S (KS P S) N p v w2->∀(fr:Frame) (w1:World),runN P n (lone h (hs++[Base P]) v)=.next (lone fr [Base P] w1)->
 ((∃x,fr.leaving P w1 (.returned x))\/∃Eh,fr.leaving P w1 (.panicked Eh))->∃Eh,fr.mode=.panicking Eh/\Eh.head?=some e0/\Alike v w1:=by
 intro n;induction n with
 |zero=>
  intro h hs v w2 ch e0 hm he hd H7 hw fr w1 hr hl;simp only[runN,Stepped.next.injEq]at hr;obtain⟨rfl,_,rfl⟩:=fh hr;exact⟨ch,hm,he,Alike.refl _⟩
 |succ n ih=>
  intro h hs v w2 ch e0 hm he hd H7 hw fr w1 hr hl;obtain⟨⟨d',hdl⟩,FM⟩:=hd
  have bJ:stepG P true {frame:=h,callers:=hs++[Base P],status:=.running,dying:=none} v=Go.unwind P true h (hs++[Base P]) none v:=by
   unfold stepG;simp only[hm]
  generalize QW:h.defers=ds at hdl;cases hdl with
  | @cons r r' l l' QY Zj=>
    obtain⟨o,o',ho,LQ,hc⟩:=hw.blk r r' QY
    have sk:(∃x,(Instr.takeDeferred r).run P v=.halt x v)->False:=by
     rintro⟨x,hx⟩
     have:step P (lone h (hs++[Base P]) v)=.ended _ _:=step_lone_ended (by
      rw[bJ];unfold Go.unwind;simp only[QW,Sem.runT_eq,hx,GStep.bare_after];rfl)
     simp only[runN,this]at hr;cases hr
    have IA:(∀d,o≠ .deferred (some d))->False:=λhn=>sk (by
     simp only[Instr.takeDeferred,getObj,bind,Sem.bind,Sem.run,ho];cases o<;>first|exact⟨_,rfl⟩|(rename_i d;cases d<;>first|exact⟨_,rfl⟩|exact absurd rfl (hn _)))
    rcases hc with⟨_,c,c',el,fz,rfl,rfl,_⟩|⟨hN,qU⟩
    .exact(IA λd h=>by cases h).elim
    .cases qU with
     |ep=>
      have aW:(Instr.takeDeferred r).run P v=.ok [] {v with heap:=v.heap.setIfInBounds r (.deferred none)}:=by
       simp[Instr.takeDeferred,getObj,setObj,bind,Sem.bind,Sem.run,ho,pure]
      have bK:step P (lone h (hs++[Base P]) v)=.next (lone {h with defers:=[]++l} (hs++[Base P]) {v with heap:=v.heap.setIfInBounds r (.deferred none)}):=step_lone_go (by
       rw[bJ];unfold Go.unwind;simp only[QW,Sem.runT_eq,aW,GStep.bare_after];rfl)
      simp only[runN,bK]at hr;obtain⟨Eh,k1,k2,k3⟩:=ih {h with defers:=[]++l} hs _ {w2 with heap:=w2.heap.setIfInBounds r' (.deferred none)} ch e0 hm he ⟨⟨_,Zj⟩,FM⟩ H7 (hw.setObj QY .ei hN) fr w1 hr hl;refine⟨Eh,k1,k2,Alike.trans (λs=>?_) k3⟩;by_cases hs:r=s
      .subst hs;have az:=(zAD.1 ho).1;exact .inr ⟨⟨_,ho⟩,none,by simp[az]⟩
      .exact .inl (by simp[hs])
     |_=>exact(IA λd h=>by cases h).elim
  |nil=>
   have Vm:h.catches P=false:=nk FM;cases hs with
   |nil=>
    exfalso
    have bK:step P (lone h ([]++[Base P]) v)=.next (lone ((Base P).raise ch) [] v):=step_lone_go (by
     rw[bJ];unfold Go.unwind;simp only[QW,hm,Vm,zAN,zBG];rfl)
    simp only[runN,bK]at hr;obtain⟨o,w5,Zk⟩:=fw P ch v;cases n with
    |zero=>
     simp only[runN,Stepped.next.injEq]at hr;have:=(fh hr).2.1;simp at this
    |succ n=>simp only[runN,Zk]at hr;cases hr
   |cons g2 gV=>
    have bK:step P (lone h (g2::gV++[Base P]) v)=.next (lone (g2.raise ch) (gV++[Base P]) v):=step_lone_go (by
     rw[bJ];unfold Go.unwind;simp only[QW,hm,Vm,zAN,zBG];rfl)
    simp only[runN,bK]at hr;obtain⟨ch3,m1,m2⟩:=raise_mode g2 he;obtain⟨Zh,ht2⟩:=H7 g2 (by simp);have Vn:=wP g2 ch;exact ih (g2.raise ch) gV v w2 ch3 e0 m1 m2 ⟨by rw[Vn.1];exact Zh,by rw[Vn.2];exact ht2⟩ (λg hg=>H7 g (by simp[hg])) hw fr w1 hr hl
end
def Zl (P:Program) (lf:Frame) (sm:List Frame) (lw:World) (R:Value->World->Prop) (C:Value->World->Prop):Prop:=
 ∀T,∃n fr w1,runN P n (lone lf (sm++[Base P]) {lw with tape:=T})=.next (lone fr [Base P] w1)/\
  ((∃v,fr.leaving P w1 (.returned v)/\R v w1)\/(∃e ch,fr.leaving P w1 (.panicked (e::ch))/\C e.v w1/\∀(S:Nat->Bool) (q:Pi) v',S (P.funcs.size+P.globals.size)=false->¬VR S q e.v v'))
def sn (P:Program) (S:Nat->Bool) (N:Nat) (p:Pi) (R:Value->World->Prop) (kn own:Nat->Prop) (v':Value) (w':World):Prop:=
 ∃q v w1,R v w1/\VR S q v v'/\WR P S (KS P S) N q w1 w'/\Le p q/\kn=jR q/\own=bU N q
def gA (m:Nat->Nat) (d:Nat):Nat->Nat
 |0=>d
 |k+1=>gA m d k+m k
theorem pA (m:Nat->Nat) (d:Nat) {k j:Nat} (h:k<=j):gA m d k<=gA m d j:=by
 induction h with
 |refl=>exact zAC _
 |step _ ih=>simp only[gA];omega
open Classical in
theorem splice [Inhabited α] (m:Nat->Nat) (a:Nat->Nat->α) (d:Nat):∃T:Nat->α,∀k j,j<m k->T (gA m d k+j)=a k j:=by
 refine⟨λi=>if h:∃k,gA m d k<=i/\i<gA m d (k+1)then a h.choose (i-gA m d h.choose)else default,λk j hj=>?_⟩;have h:∃k',gA m d k'<=gA m d k+j/\gA m d k+j<gA m d (k'+1):=⟨k,by omega,by simp only[gA];omega⟩
 simp only[dif_pos h];obtain⟨c,hc,gt⟩:∃c,(gA m d c<=gA m d k+j/\gA m d k+j<gA m d (c+1))/\h.choose=c:=⟨h.choose,h.choose_spec,rfl⟩
 rw[gt]
 have e:c=k:=by
  rcases Nat.lt_trichotomy c k with az|heq|zl
  .have:=pA m d (show c+1<=k by omega);omega
  .exact heq
  .have:=pA m d (show k+1<=c by omega);simp only[gA]at this;omega
 subst e;congr 1;omega
def LR (H:FuncId->Code->Code->Prop) (lf f:Frame):Prop:=lf.mode=.run/\f.mode=.run/\∃c c' k k',lf.todo=.code c::k/\f.todo=.code c'::k'/\H f.fn c c'
def IB (H:FuncId->Code->Code->Prop) (f:Frame):Prop:=f.mode=.run/\∃c c' k',f.todo=.code c'::k'/\H f.fn c c'
structure sq (P:Program) (S:Nat->Bool) (H:FuncId->Code->Code->Prop) (N:Nat) (HA:kV) (HP:dS) (C:Value->World->Prop)where
 a0:Question->Nat
 m1:Nat
 Zm:Value->World->Nat->Question->Nat
 ln:Nat
 q3:Pi->Nat->Frame->World->Value->World->Pi
 val:Frame->Value
 only:∀fn c c' c0,H fn c c'->CR P S (H fn) c0 c'->H fn c0 c'\/∃w,c0=.refuse w
 marked:S (P.funcs.size+P.globals.size)=false
 bare:∀o,fN S o=false
 B9:∀v w w',Alike w w'->C v w'->C v w
 check:∀p lf f v cs,kU P S H p lf f->LR H lf f->(∀q,v.tape v.drawn q=a0 q)->∃n g1 v1 e,runN P n (lone lf cs v)=.next (lone g1 cs v1)/\g1.mode=.panicking [e]/\e.v=val lf/\
  FD P S H p g1/\v1.heap=v.heap
 ha:∀p lf f v w2,kU P S H p lf f->LR H lf f->WR P S (KS P S) N p v w2->C (val lf) v->HA (jR p) (bU N p) f w2
 pass:∀p lf f v w2 lc cs u' w3 eS bt,kU P S H p lf f->LR H lf f->WR P S (KS P S) N p v w2->HP (jR p) (bU N p) f w2 u' w3 eS bt->(∀i,i<m1->∀q,v.tape (v.drawn+i) q=Zm u' w3 i q)->
  ∃n u v1,1<=n/\runN P n (lone lf (lc::cs) v)=.next (lone (lc.finish u) cs v1)/\VR S (q3 p v.heap.size f w2 u' w3) u u'/\WR P S (KS P S) N (q3 p v.heap.size f w2 u' w3) v1 w3/\
   Le p (q3 p v.heap.size f w2 u' w3)/\eS=jR (q3 p v.heap.size f w2 u' w3)/\bt=bU N (q3 p v.heap.size f w2 u' w3)/\v1.tape=v.tape/\v1.drawn=v.drawn+m1/\v1.heap.size=v.heap.size+ln
structure Nd where
 p:Pi
 L:Nat
 f:Frame
 top:List Frame
 w:World
section
variable (Q:Program) (S:Nat->Bool) (H:FuncId->Code->Code->Prop) (N:Nat) (main:Bool) (base:List Frame) (Fin:oe) (HA:kV) (HP:dS)
def Nd.ct (x:Nd):Prop:=CT Q main base Fin HA HP (jR x.p) (bU N x.p) x.f x.top x.w
def Nd.step (x:Nd) (w2:World):GStep:=stepG Q main (iz x.f (x.top++base)) w2
def Nd.bad (x:Nd) (w2:World):Prop:=
 Env (jR x.p) x.w w2/\
 ¬((∃w3 es f2 og,x.step Q main base w2=.go (iz f2 (og++base)) w3 es/\Fair (jR x.p) (bU N x.p) w2 w3 es/\CT Q main base Fin HA HP (aG (jR x.p) w2 w3) (aG (bU N x.p) w2 w3) f2 og w3)\/
  (∃w3 es v b bs,base=b::bs/\x.step Q main base w2=.go (iz (b.finish v) bs) w3 es/\Fair (jR x.p) (bU N x.p) w2 w3 es/\Fin (aG (jR x.p) w2 w3) (aG (bU N x.p) w2 w3) v w3)\/
  (∃w3 es v,base=[]/\x.step Q main base w2=.ended (.done v) w3 es/\Fair (jR x.p) (bU N x.p) w2 w3 es/\Fin (aG (jR x.p) w2 w3) (aG (bU N x.p) w2 w3) v w3)\/
  (HA (jR x.p) (bU N x.p) x.f w2/\∃c rest,x.top=c::rest/\∀v w3 eS bt,HP (jR x.p) (bU N x.p) x.f w2 v w3 eS bt->CT Q main base Fin HA HP eS bt (c.finish v) rest w3))
theorem Nd.QZ (x:Nd) (h:¬x.ct Q N main base Fin HA HP):∃w2,x.bad Q N main base Fin HA HP w2:=by
 refine zBF λhn=>h (CT.mk λw2 he=>?_);exact zBF λhx=>hn ⟨w2,he,hx⟩
def Nd.out (x:Nd) (w2:World) (o:Value×World):Prop:=
 ∃c rest eS bt,x.top=c::rest/\HP (jR x.p) (bU N x.p) x.f w2 o.1 o.2 eS bt/\¬CT Q main base Fin HA HP eS bt (c.finish o.1) rest o.2
open Classical in
noncomputable def Nd.pick (x:Nd):World:=if h:∃w2,x.bad Q N main base Fin HA HP w2 then h.choose else x.w
theorem Nd.uZ (x:Nd) (h:¬x.ct Q N main base Fin HA HP):x.bad Q N main base Fin HA HP (x.pick Q N main base Fin HA HP):=by
 have:=x.QZ Q N main base Fin HA HP h;unfold Nd.pick;rw[dif_pos this];exact this.choose_spec
open Classical in
noncomputable def Nd.fx (x:Nd):Value×World:=
 if h:∃o,x.out Q N main base Fin HA HP (x.pick Q N main base Fin HA HP) o then h.choose else(undef,x.w)
theorem Nd.wQ (x:Nd) (h:∃o,x.out Q N main base Fin HA HP (x.pick Q N main base Fin HA HP) o):x.out Q N main base Fin HA HP (x.pick Q N main base Fin HA HP) (x.fx Q N main base Fin HA HP):=by
 unfold Nd.fx;rw[dif_pos h];exact h.choose_spec
end
section
variable {P:Program} (Q:Program) {S:Nat->Bool} {H:FuncId->Code->Code->Prop} {N:Nat} (main:Bool) (base:List Frame) (Fin:oe) {HA:kV} {HP:dS} {C:Value->World->Prop} (hl:sq P S H N HA HP C)
open Classical in
noncomputable def Nd.nx (x:Nd):Nd:=
 if IB H x.f then
  match x.top with
  |c::rest=>⟨hl.q3 x.p x.L x.f (x.pick Q N main base Fin HA HP) (x.fx Q N main base Fin HA HP).1 (x.fx Q N main base Fin HA HP).2,x.L+hl.ln,c.finish (x.fx Q N main base Fin HA HP).1,rest,(x.fx Q N main base Fin HA HP).2⟩
  | []=>x
 else match x.step Q main base (x.pick Q N main base Fin HA HP)with
 |.go g w3 _=>⟨ext x.p x.L (x.pick Q N main base Fin HA HP).heap.size (w3.heap.size-(x.pick Q N main base Fin HA HP).heap.size),x.L+(w3.heap.size-(x.pick Q N main base Fin HA HP).heap.size),
    g.frame,g.callers.take (g.callers.length-base.length),w3⟩
 |_=>x
noncomputable def Nd.path (x:Nd):Nat->Nd
 |0=>x
 |k+1=>(Nd.path x k).nx Q main base Fin hl
open Classical in
noncomputable def Nd.cnt (x:Nd):Nat:=
 if IB H x.f then hl.m1 else(gw (x.step Q main base (x.pick Q N main base Fin HA HP))).drawn-(x.pick Q N main base Fin HA HP).drawn
open Classical in
noncomputable def Nd.piece (x:Nd) (i:Nat):Question->Nat:=
 if IB H x.f then hl.Zm (x.fx Q N main base Fin HA HP).1 (x.fx Q N main base Fin HA HP).2 i else(x.pick Q N main base Fin HA HP).tape ((x.pick Q N main base Fin HA HP).drawn+i)
end
instance : Inhabited (Question -> Nat) := ⟨λ_ => 0⟩
def Ends (P:Program) (fr:Frame) (w1:World):Prop:=(∃v,fr.leaving P w1 (.returned v))\/∃ch,fr.leaving P w1 (.panicked ch)
theorem Ends.after {P:Program} (h:Ends P fr w1):∃b,step P (lone fr [Base P] w1)=.next (lone b [] w1)/\∃o w2,step P (lone b [] w1)=.ended o w2:=by
 rcases h with⟨v,h⟩|⟨ch,h⟩
 .exact⟨_,step_leave_returned h,gz P v w1⟩
 .exact⟨_,step_leave_panicked h,fw P ch w1⟩
theorem before {P:Program} {m0:Machine} (h:runN P n m0=.next (lone fr [Base P] w1)) (he:Ends P fr w1) {ν:Nat} {gs:List Frame} {v:World}
 (hv:runN P ν m0=.next (lone g (gs++[Base P]) v)):ν<=n/\runN P (n-ν) (lone g (gs++[Base P]) v)=.next (lone fr [Base P] w1):=by
 obtain⟨b,h1,o,w2,h2⟩:=he.after
 have hle:ν<=n:=by
  rcases zCS n ν with az|y6
  .exfalso;obtain⟨j,rfl⟩:∃j,ν=(n+1)+j:=⟨ν-(n+1),by omega⟩
   rw[runN_add,si P n _ _ h,h1]at hv;cases j with
   |zero=>
    simp only[runN,Stepped.next.injEq]at hv;have:=(fh hv).2.1;simp at this
   |succ j=>simp only[runN,h2]at hv;cases hv
  .exact y6
 refine⟨hle,?_⟩;have:n=ν+(n-ν):=by omega
 rw[this,runN_add,hv]at h;exact h
theorem wR {P:Program} {b:Frame} {v1:World} (h:runN P r σ=.next (lone fr [Base P] w1)) (hs:step P σ=.next (lone b [] v1)) (hb:∃o w2,step P (lone b [] v1)=.ended o w2):r=0/\σ=lone fr [Base P] w1:=by
 obtain⟨o,w2,hb⟩:=hb;cases r with
 |zero=>simp only[runN,Stepped.next.injEq]at h;exact⟨rfl,h⟩
 |succ r=>
  exfalso;simp only[runN,hs]at h;cases r with
  |zero=>
   simp only[runN,Stepped.next.injEq]at h;have:=(fh h).2.1;simp at this
  |succ r=>simp only[runN,hb]at h;cases h
theorem wS {P:Program} {o:Outcome} (h:runN P r σ=.next (lone fr [Base P] w1)) (he:Ends P fr w1) (hs:step P σ=.ended o w2):False:=by
 cases r with
 |zero=>
  simp only[runN,Stepped.next.injEq]at h;obtain⟨b,h1,_⟩:=he.after;rw[h,h1]at hs;cases hs
 |succ r=>simp only[runN,hs]at h;cases h
theorem FL.above {P:Program} {S:Nat->Bool} {H:FuncId->Code->Code->Prop} {p:Pi} (h:FL P S H p (f::t) (f'::t')) {c c':Code} (hh:H f'.fn c c'):∃g g' r r',t=g::r/\t'=g'::r'/\FL P S H p (g::r) (g'::r'):=by
 cases h with
 |one h r=>exact absurd (h.fn▸hh) (r.2 c c')
 |cons h k=>
  cases k with
  |one h r=>exact⟨_,_,_,_,rfl,rfl,.one h r⟩
  |cons h t=>exact⟨_,_,_,_,rfl,rfl,.cons h t⟩
section
variable {P:Program} {F:Array Func} {S:Nat->Bool} {H:FuncId->Code->Code->Prop} {N:Nat} {HA:kV} {HP:dS} {C:Value->World->Prop}
theorem IC {p:Pi} (hl:sq P S H N HA HP C) (hf:FL P S H p (f::t) (f'::t')) (hh:IB H f'):LR H f f'\/∃w k,f.todo=.code (.refuse w)::k/\f.mode=.run:=by
 obtain⟨hm,c,c',k',ht,hH⟩:=hh;have rc:=hf.head.mode;rw[hm]at rc;have aW:f.mode=.run:=by generalize f.mode=o at rc;cases rc;rfl
 have FM:=hf.head.todo;rw[ht]at FM
 have key:∀x,f.todo=x->TL P S (H f.fn) p x (.code c'::k')->LR H f f'\/∃w k,f.todo=.code (.refuse w)::k/\f.mode=.run:=by
  intro x hx FM;cases FM with
  |cons hi FM=>
   cases hi with
   | @code c0 _ Pj=>
     rcases hl.only _ c c' c0 hH (hf.head.fn▸Pj)with h|⟨w,h⟩
     .exact .inl ⟨aW,hm,c0,c',_,k',hx,ht,h⟩
     .rw[h]at hx;exact .inr ⟨w,_,hx,aW⟩
 exact key _ rfl FM
theorem va {p:Pi} (hc:Closed P F S H) (hg:iH P S p) {lf:Frame} {sm top:List Frame} {w:World} (hw:WR P S (KS P S) N p lw w)
 (hf:FL P S H p (lf::sm) (f::top)) {R:Value->World->Prop} (hl:sq P S H N HA HP C) (FN:Zl P lf sm lw R C) (main:Bool) (base:List Frame) (hb:QS P S main base):
 CT (ae P F) main base (sn P S N p R) HA HP (jR p) (bU N p) f top w:=by
 refine zBF λhct=>?_;let Fin:=sn P S N p R
 let x0:Nd:=⟨p,lw.heap.size,f,top,w⟩
 have rz:¬x0.ct (ae P F) N main base Fin HA HP:=hct;let X:=λk=>Nd.path (ae P F) main base Fin hl x0 k
 let pk:=λk=>(X k).pick (ae P F) N main base Fin HA HP
 let m:=λk=>(X k).cnt (ae P F) main base Fin hl
 let D:=λk=>gA m lw.drawn k
 let start:=λT:Nat->Question->Nat=>lone lf (sm++[Base P]) {lw with tape:=T}
 have inv:∀k (T:Nat->Question->Nat),(∀j,j<k->∀i,i<m j->T (D j+i)=(X j).piece (ae P F) main base Fin hl i)->∃ν g gs v,k<=ν/\runN P ν (start T)=.next (lone g (gs++[Base P]) v)/\WR P S (KS P S) N (X k).p v (X k).w/\
  FL P S H (X k).p (g::gs) ((X k).f::(X k).top)/\iH P S (X k).p/\v.tape=T/\v.drawn=D k/\v.heap.size=(X k).L/\(¬(X k).ct (ae P F) N main base Fin HA HP)/\Le p (X k).p:=by
  intro k;induction k with
  |zero=>intro T _;exact⟨0,lf,sm,{lw with tape:=T},zAC _,rfl,hw.tape T lw.drawn,hf,hg,rfl,rfl,rfl,rz,Le.refl p⟩
  |succ k ih=>
   intro T hT;obtain⟨ν,g,gs,v,e0,e1,e2,e3,e4,e5,e6,e7,e8,e9⟩:=ih T λj hj i hi=>hT j (by omega) i hi;obtain⟨wT,sk⟩:=(X k).uZ (ae P F) N main base Fin HA HP e8;have ut:WR P S (KS P S) N (X k).p v (pk k):=e2.env wT;obtain⟨n,fr,w1,c1,c2⟩:=FN T
   have mV:Ends P fr w1:=by
    rcases c2 with⟨rv,h,_⟩|⟨e,ch,h,_⟩
    .exact .inl ⟨rv,h⟩
    .exact .inr ⟨_,h⟩
   obtain⟨hle,qp⟩:=before c1 mV e1;by_cases lC:IB H (X k).f
   ·
    rcases IC hl e3 lC with hh|⟨ws,kk,hrf,hrm⟩
    .have uu:m k=hl.m1:=by show Nd.cnt _ _ _ _ hl (X k)=_;unfold Nd.cnt;rw[zAI lC]
     obtain⟨lc,fc,zm,rest,hgs,re,Ia⟩:∃lc fc zm rest,gs=lc::zm/\(X k).top=fc::rest/\FL P S H (X k).p (lc::zm) (fc::rest):=by
      obtain⟨_,_,c,c',_,_,_,_,hH⟩:=hh;obtain⟨lc,fc,lr,r,h1,h2,h3⟩:=e3.above hH;exact⟨lc,fc,lr,r,h1,h2,h3⟩
     have uv:HA (jR (X k).p) (bU N (X k).p) (X k).f (pk k):=by
      let T2:Nat->Question->Nat:=λi=>if i<D k then T i else hl.a0
      have hT2:∀j,j<k->∀i,i<m j->T2 (D j+i)=(X j).piece (ae P F) main base Fin hl i:=λj hj i hi=>by
       have h1:=pA m lw.drawn (show j+1<=k by omega);simp only[gA]at h1;have:D j+i<D k:=by show gA m lw.drawn j+i<gA m lw.drawn k;omega
       show(if D j+i<D k then T (D j+i)else hl.a0)=_;rw[zAI this];exact hT j (by omega) i hi
      obtain⟨ν2,g2,Pk,v2,_,f1,f2,f3,_,f5,f6,_,_,_⟩:=ih T2 hT2;have Zn:LR H g2 (X k).f\/_:=IC hl f3 lC;obtain⟨n2,fr2,w3,d1,d2⟩:=FN T2
      have wU:Ends P fr2 w3:=by
       rcases d2 with⟨rv,h,_⟩|⟨e,ch,h,_⟩
       .exact .inl ⟨rv,h⟩
       .exact .inr ⟨_,h⟩
      obtain⟨_,Q0⟩:=before d1 wU f1;rcases Zn with Zn|⟨ws,kk,hrf,hrm⟩
      .obtain⟨nn,g3,v3,e,p1,p2,p3,p4,p5⟩:=hl.check (X k).p g2 (X k).f v2 (Pk++[Base P]) f3.head Zn (λq=>by
        rw[f5,f6];show(if D k<D k then T (D k)else hl.a0) q=hl.a0 q;rw[zAH (Nat.lt_irrefl _)])
       have hgo:runN P (ν2+nn) (start T2)=.next (lone g3 (Pk++[Base P]) v3):=by rw[runN_add,f1];exact p1
       obtain⟨_,Q1⟩:=before d1 wU hgo;have Zo:WR P S (KS P S) N (X k).p v3 (X k).w:=⟨f2.inj,λr r' h=>by rw[p5];exact f2.blk r r' h,by rw[p5];exact f2.low,f2.fix,by rw[p5];exact f2.fM,f2.jL,f2.str,f2.uk⟩
       have hfd:∀x∈Pk,FD P S H (X k).p x:=λx hx=>f3.fd x (by simp[hx]);obtain⟨Eh,q1,q2,q3⟩:=sj _ g3 Pk v3 (X k).w [e] e p2 rfl p4 hfd Zo fr2 w3 Q1 wU;rcases d2 with⟨rv,h,_⟩|⟨e',Uj,h,hC,_⟩
       .have:=h.1;rw[q1]at this;cases this
       .have:=h.1;rw[q1]at this;simp only[FrameMode.panicking.injEq]at this;subst this;simp only[List.head?_cons,zAA]at q2;subst q2;rw[p3]at hC;have Pm:Alike v2 w3:=λr=>by have:=q3 r;rw[p5]at this;exact this
        exact hl.ha (X k).p g2 (X k).f v2 (pk k) f3.head Zn (f2.env wT) (hl.B9 _ _ _ Pm hC)
      .exact(wS Q0 wU (step_lone_ended (o:=.unsupported _ (g2.pos P)) (w':=v2) (by
        unfold stepG;simp only[hrm];unfold stepG.exec;simp only[hrf];rfl))).elim
     have FO:∃o,(X k).out (ae P F) N main base Fin HA HP (pk k) o:=by
      refine zBF λi6=>sk (.inr (.inr (.inr ⟨uv,fc,rest,re,λv w3 eS bt hp=>?_⟩)));exact zBF λhx=>i6 ⟨(v,w3),fc,rest,eS,bt,re,hp,hx⟩
     obtain⟨fc2,Vo,eS,bt,Pn,hHP,Q2⟩:=(X k).wQ (ae P F) N main base Fin HA HP FO;rw[re]at Pn;obtain⟨rfl,rfl⟩:fc=fc2/\rest=Vo:=by simpa using Pn
     obtain⟨nn,u,v1,p0,p1,p2,p4,p5,p6,p7,p8,p9,p10⟩:=hl.pass (X k).p g (X k).f v (pk k) lc (zm++[Base P]) _ _ eS bt e3.head hh ut hHP (λi hi q=>by
      have:=hT k (by omega) i (by rw[uu];exact hi);rw[e5,e6,this];unfold Nd.piece;rw[zAI lC])
     have Ib:X (k+1)=⟨hl.q3 (X k).p (X k).L (X k).f (pk k) ((X k).fx (ae P F) N main base Fin HA HP).1 ((X k).fx (ae P F) N main base Fin HA HP).2,(X k).L+hl.ln,fc.finish ((X k).fx (ae P F) N main base Fin HA HP).1,rest,((X k).fx (ae P F) N main base Fin HA HP).2⟩:=by
      show(X k).nx (ae P F) main base Fin hl=_;unfold Nd.nx;rw[zAI lC,re]
     rw[Ib];rw[e7]at p2 p4 p5 p6 p7;refine⟨ν+nn,lc.finish u,zm,v1,by omega,by rw[runN_add,e1,hgs];exact p1,p4,(Ia.mono p5).top ((Ia.mono p5).head.finish p2) (dR _ _),e4.mono p5,p8.trans e5,?_,by rw[p10,e7],?_,e9.trans p5⟩
     .rw[p9,e6];show D k+hl.m1=gA m lw.drawn k+m k;rw[uu]
     .unfold Nd.ct;rw[<-p6,<-p7];exact Q2
    .exact(wS qp mV (step_lone_ended (o:=.unsupported _ (g.pos P)) (w':=v) (by
      unfold stepG;simp only[hrm];unfold stepG.exec;simp only[hrf];rfl))).elim
   ·
    have uu:m k=(gw ((X k).step (ae P F) main base (pk k))).drawn-(pk k).drawn:=by show Nd.cnt _ _ _ _ hl (X k)=_;unfold Nd.cnt;rw[zAH lC]
    have Ca:kN (m k) v (pk k):=λj hj q=>by
     have:=hT k (by omega) j hj;rw[e5,e6,this];unfold Nd.piece;rw[zAH lC]
    have hd:(gw (stepG (ae P F) main {frame:=(X k).f,callers:=(X k).top++base,status:=.running,dying:=none} (pk k))).drawn<=(pk k).drawn+m k:=by
     rw[uu];show(gw ((X k).step (ae P F) main base (pk k))).drawn<=(pk k).drawn+((gw ((X k).step (ae P F) main base (pk k))).drawn-(pk k).drawn)
     omega
    have Q3:=dB.step (b:=Base P) (bs:=[]) (aO:=base) hc ut e4 e3 (λc c' k1 k1' hm h1 h2 hH=>lC ⟨by
     have rc:=e3.head.mode;rw[hm]at rc;generalize(X k).f.mode=o at rc;cases rc;rfl,c,c',k1',h2,e3.head.fn▸hH⟩) (λ⟨_,o,_,_,_,_,_,_,h5,_⟩=>by rw[hl.bare o.op]at h5;cases h5) true main hb Ca hd
    rcases Q3 with⟨o,w3,es,hs⟩|⟨q,ch,Uj,w3,es,Ed,hs⟩|⟨c,nn,v1,w3,es,dc,hm,Vp,jS⟩
    .exact(wS qp mV (step_lone_ended (o:=o) (w':=w3) (by rw[hs];rfl))).elim
    .exfalso;have bJ:step P (lone g (gs++[Base P]) v)=.next (lone ((Base P).raise ch) [] w3):=step_lone_go (by rw[hs];rfl);obtain⟨_,hσ⟩:=wR qp bJ (fw P ch w3);rw[hσ]at bJ;rcases c2 with⟨rv,h,_⟩|⟨e,Eh,h,_,hnv⟩
     .rw[step_leave_returned h]at bJ;simp only[Stepped.next.injEq]at bJ;have q1:=(fh bJ).1;rw[dO]at q1;have:=zBK (λf:Frame=>f.mode) q1;simp[Base,Frame.raise]at this
     .rw[step_leave_panicked h]at bJ;simp only[Stepped.next.injEq]at bJ;have q1:=zBK (λf:Frame=>f.mode) (fh bJ).1;simp only[Base,Frame.raise,FrameMode.panicking.injEq]at q1;rw[<-q1]at Ed;cases Ed with
      |cons b1 b2 hv _=>exact hnv S q _ hl.marked hv
    .obtain⟨sr,su,rf⟩:=cz.fair ut hm Vp;rcases jS with⟨f2,Ic,t2,MG,Ia,hs,t8⟩|⟨Q4,Cb,hv,hs,t8⟩
     .have bJ:step P (lone g (gs++[Base P]) v)=.next (lone f2 (t2++[Base P]) v1):=step_lone_go (by rw[hs];rfl);have pg:=si P ν _ _ e1;rw[bJ]at pg;have gV:(X k).step (ae P F) main base (pk k)=.go (iz Ic (MG++base)) w3 dc:=t8
      have Ib:X (k+1)=⟨ext (X k).p (X k).L (pk k).heap.size c,(X k).L+c,Ic,MG,w3⟩:=by
       show(X k).nx (ae P F) main base Fin hl=_;unfold Nd.nx;rw[zAH lC];have FP:(X k).step (ae P F) main base ((X k).pick (ae P F) N main base Fin HA HP)=.go (iz Ic (MG++base)) w3 dc:=t8;rw[FP]
       have bW:w3.heap.size-((X k).pick (ae P F) N main base Fin HA HP).heap.size=c:=by
        have h6:w3.heap.size=(pk k).heap.size+c:=hm.li;show w3.heap.size-(pk k).heap.size=c;rw[h6,zCK]
       simp only[bW];congr 1;rw[zBA,Nat.add_sub_cancel];exact List.take_left
      rw[Ib];have hrel:=hm.rel;rw[e7]at hrel Ia su rf;have FQ:=fe (X k).p (X k).L (pk k).heap.size c;refine⟨ν+1,f2,t2,v1,by omega,pg,hrel,Ia,e4.mono FQ,hm.tape.trans e5,?_,by rw[hm.size,e7],?_,e9.trans FQ⟩
      .rw[hm.drawn,e6]
       have:m k=nn:=by
        rw[uu,gV];have h5:w3.drawn=(pk k).drawn+nn:=hm.lj;show w3.drawn-(pk k).drawn=nn;rw[h5,zCK]
       show D k+nn=gA m lw.drawn k+m k;rw[this]
      .intro Cc;refine sk (.inl ⟨w3,dc,Ic,MG,gV,sr,?_⟩);unfold Nd.ct at Cc;rw[su,rf]at Cc;exact Cc
     .exfalso;have bJ:step P (lone g (gs++[Base P]) v)=.next (lone ((Base P).finish Q4) [] v1):=step_lone_go (by rw[hs];rfl);obtain⟨_,hσ⟩:=wR qp bJ (gz P Q4 v1);rw[hσ]at bJ;rcases c2 with⟨rv,h,hR⟩|⟨e,Eh,h,_⟩
      .rw[step_leave_returned h]at bJ;simp only[Stepped.next.injEq]at bJ;obtain⟨q1,_,q3⟩:=fh bJ;rw[dO,dO]at q1
       have Id:rv=Q4:=by
        have:=zBK (λf:Frame=>f.tmps) q1;simpa using this
       subst Id;subst q3;have sw:Fin (aG (jR (X k).p) (pk k) w3) (aG (bU N (X k).p) (pk k) w3) Cb w3:=⟨_,rv,w1,hR,hv,hm.rel,e9.trans (fe _ _ _ _),su.symm,rf.symm⟩
       rcases t8 with⟨b',wN,jT,t8⟩|⟨jT,t8⟩
       .exact sk (.inr (.inl ⟨w3,dc,Cb,b',wN,jT,t8,sr,sw⟩))
       .exact sk (.inr (.inr (.inl ⟨w3,dc,Cb,jT,t8,sr,sw⟩)))
      .rw[step_leave_panicked h]at bJ;simp only[Stepped.next.injEq]at bJ;have q1:=(fh bJ).1;rw[dO]at q1;have:=zBK (λf:Frame=>f.mode) q1;simp[Base,Frame.raise]at this
 obtain⟨T,hT⟩:=splice m (λk j=>(X k).piece (ae P F) main base Fin hl j) lw.drawn;obtain⟨n,fr,w1,c1,c2⟩:=FN T
 have mV:Ends P fr w1:=by
  rcases c2 with⟨rv,h,_⟩|⟨e,ch,h,_⟩
  .exact .inl ⟨rv,h⟩
  .exact .inr ⟨_,h⟩
 obtain⟨ν,g,gs,v,e0,e1,_⟩:=inv (n+1) T λj _ i hi=>hT j i hi;obtain⟨hle,_⟩:=before c1 mV e1;omega
end
end Go.aC
