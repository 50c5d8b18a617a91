/- A part. Conditions: none. -/
import Derived.Test.YtboiakcocelkmaaGreatDoorT01
set_option linter.all false
namespace Go.au
variable {c id m n r r':Nat} {cB xs:Array Value} {cY t t':List Frame} {es:Array Event} {f f' fr g:Frame} {fG lw w1 w2:World} {k l l':List Item} {kn own:Nat->Prop} {s':GStep} {v v':Value} {α:Type} {σ:Machine}
def gw:GStep->World
 |.go _ w _=>w
 |.comm _ _ _ _ w _=>w
 |.spawn _ _ w _=>w
 |.count _ w _=>w
 |.timer _ _ w _=>w
 |.alone _ _ w _=>w
 |.newcoro _ _ _ w _=>w
 |.coroswitch _ _ _ w _=>w
 |.collect _ w _=>w
 |.watch _ w _=>w
 |.ended _ w _=>w
@[simp] theorem iY (es:Array Event) (s:GStep):gw (GStep.after es s)=gw s:=by cases s <;> rfl
theorem CM (P:Program) (s:Sem α) (w:World):w.drawn<=(world (s.run P w)).drawn:=by
 have:=lM P s w #[];rw[Sem.runT_fst]at this;exact this
theorem kj {P:Program} {s:Sem α} {w:World} {r:Result α} (h:s.run P w=r):w.drawn<=(world r).drawn:=h▸CM P s w
theorem qH (P:Program) (fr:Frame) (cs:List Frame) (d:Option Dying) (m:String) (w:World):w.drawn<=(gw (endFatal P fr cs d m w)).drawn:=by
 unfold endFatal;dsimp only;split
 .rename_i h;exact kj h
 .rename_i h;exact kj h
 .rename_i h;exact kj h
theorem wJ (P:Program) (fr:Frame) (cs:List Frame) (d:Option Dying) (g:Nat) (w:World):w.drawn<=(gw (early P fr cs d g w)).drawn:=by
 unfold early;dsimp only;repeat' split
 all_goals first
  |exact Nat.le_refl _
  |(have hx:=kj (by assumption:Sem.run P (choose (Question.early g)) w=Result.ok _ _);exact hx)
  |(have hx:=kj (by assumption:Sem.run P (choose (Question.early g)) w=Result.halt _ _);exact hx)
theorem oY (P:Program) (fr:Frame) (cs:List Frame) (d:Option Dying) (s:Sem Next) (w:World):(world (s.runT P w #[]).1).drawn<=(gw (stepG.apply P true fr cs d s w)).drawn:=by
 unfold stepG.apply;simp only[if_true];generalize s.runT P w #[]=x;obtain⟨r,es⟩:=x;simp only[iY];split;all_goals(try exact Nat.le_refl _)
 all_goals(try(split<;>exact Nat.le_refl _))
 all_goals first
  |exact qH ..
  |exact wJ ..
  |(split<;>split<;>exact Nat.le_refl _)
section
variable (P:Program) (S:Nat->Bool) (H:FuncId->Code->Code->Prop) (N:Nat)
def cU (p:Pi) (w w':World) (b:Frame) (bs:List Frame) (aL:List Frame) (s s':GStep):Prop:=
 (∃o w1 es,s=.ended o w1 es)\/(∃q ch O4 w1 es,CL S q ch O4/\s=.go {frame:=b.raise ch,callers:=bs,status:=.running,dying:=none} w1 es)\/
 ∃c n w1 fG es cH,bQ P S (KS P S) N p w w' c n w1 fG/\(∀e∈cH,Ib N (ext p w.heap.size w'.heap.size c) e)/\
  ((∃f f' top cY,FL P S H (ext p w.heap.size w'.heap.size c) (f::top) (f'::cY)/\
     s=.go {frame:=f,callers:=top++b::bs,status:=.running,dying:=none} w1 es/\
     s'=.go {frame:=f',callers:=cY++aL,status:=.running,dying:=none} fG cH)\/
   (∃v v',VR S (ext p w.heap.size w'.heap.size c) v v'/\
     s=.go {frame:=b.finish v,callers:=bs,status:=.running,dying:=none} w1 es/\
     ((∃b' uB,aL=b'::uB/\s'=.go {frame:=b'.finish v',callers:=uB,status:=.running,dying:=none} fG cH)\/
      (aL=[]/\s'=.ended (.done v') fG cH))))
end
section
variable {P:Program} {F:Array Func} {S:Nat->Bool} {H:FuncId->Code->Code->Prop} {N:Nat} {p:Pi} {w w':World} {b:Frame} {bs:List Frame} {aL:List Frame}
theorem cU.ended (o:Outcome) (w1:World) (es:Array Event):cU P S H N p w w' b bs aL (.ended o w1 es) s':=.inl ⟨o,w1,es,rfl⟩
theorem cU.go (h:WR P S (KS P S) N p w w') {top:List Frame} (hf:FL P S H p (f::top) (f'::cY)):
 cU P S H N p w w' b bs aL (.go {frame:=f,callers:=top++b::bs,status:=.running,dying:=none} w) (.go {frame:=f',callers:=cY++aL,status:=.running,dying:=none} w'):=
 .inr (.inr ⟨0,0,w,w',#[],#[],bQ.refl h,by simp,.inl ⟨f,f',top,cY,by rw[bk];exact hf,rfl,rfl⟩⟩)
theorem cU.ret (h:WR P S (KS P S) N p w w') (hv:VR S p v v') (b':Frame) (uB:List Frame):
 cU P S H N p w w' b bs (b'::uB) (.go {frame:=b.finish v,callers:=bs,status:=.running,dying:=none} w) (.go {frame:=b'.finish v',callers:=uB,status:=.running,dying:=none} w'):=
 .inr (.inr ⟨0,0,w,w',#[],#[],bQ.refl h,by simp,.inr ⟨v,v',by rw[bk];exact hv,rfl,.inl ⟨b',uB,rfl,rfl⟩⟩⟩)
theorem cU.I0 (h:WR P S (KS P S) N p w w') (hv:VR S p v v'):
 cU P S H N p w w' b bs [] (.go {frame:=b.finish v,callers:=bs,status:=.running,dying:=none} w) (.ended (.done v') w'):=
 .inr (.inr ⟨0,0,w,w',#[],#[],bQ.refl h,by simp,.inr ⟨v,v',by rw[bk];exact hv,rfl,.inr ⟨rfl,rfl⟩⟩⟩)
theorem cU.raised {q:Pi} {v v':List PanicEntry} (h:CL S q v v') (w1:World) (es:Array Event):
 cU P S H N p w w' b bs aL (.go {frame:=b.raise v,callers:=bs,status:=.running,dying:=none} w1 es) s':=.inr (.inl ⟨q,v,v',w1,es,h,rfl⟩)
theorem cU.trans (hm:bQ P S (KS P S) N p w w' c n w1 fG) {cH:Array Event} (he:∀e∈cH,Ib N (ext p w.heap.size w'.heap.size c) e) {s:GStep}
 (h:cU P S H N (ext p w.heap.size w'.heap.size c) w1 fG b bs aL s s'):cU P S H N p w w' b bs aL (s.after es) (s'.after cH):=by
 rcases h with⟨o,w2,US,rfl⟩|⟨q,ch,O4,w2,US,Bn,rfl⟩|⟨c2,n2,w2,CG,fs,U6,k1,k2,k3⟩
 .exact .inl ⟨o,w2,_,rfl⟩
 .exact .inr (.inl ⟨q,ch,O4,w2,_,Bn,rfl⟩)
 .rw[hm.size,hm.ka,mD]at k2 k3;refine .inr (.inr ⟨c+c2,n+n2,w2,CG,es++fs,cH++U6,hm.trans k1,fun x hx=>?_,?_⟩)
  .rcases Array.mem_append.1 hx with hx|hx
   .refine(he x hx).mono ?_;rw[<-mD];exact eA _ _ _ _
   .exact k2 x hx
  .rcases k3 with⟨f,f',top,cY,x1,rfl,rfl⟩|⟨v,v',x1,rfl,⟨b',uB,x2,rfl⟩|⟨x2,rfl⟩⟩
   .exact .inl ⟨f,f',top,cY,x1,rfl,rfl⟩
   .exact .inr ⟨v,v',x1,rfl,.inl ⟨b',uB,x2,rfl⟩⟩
   .exact .inr ⟨v,v',x1,rfl,.inr ⟨x2,rfl⟩⟩
def jP (m:Nat) (w w':World):Prop:=∀j,j<m->∀q,w.tape (w.drawn+j) q=w'.tape (w'.drawn+j) q
theorem jP.P7 (h:jP m w w') (hm:bQ P S (KS P S) N p w w' c n w1 fG):jP (m-n) w1 fG:=by
 intro j hj q;have:=h (n+j) (by omega) q;rw[hm.tape,hm.Bg,hm.drawn,hm.kc,Nat.add_assoc,Nat.add_assoc];exact this
theorem cU.run {β:Type} {Q:Pi->α->β->Prop} {s:Sem α} {s':Sem β} (h:SR P F S (KS P S) N Q s s' p) (hw:WR P S (KS P S) N p w w') (hm:jP m w w')
 {ev:Result α->Array Event->Array Event} {MB:Result β->Array Event->Array Event} (aS:∀r es e,e∈MB r es->e∈es)
 {k:Result α->GStep} {k':Result β->GStep} (hd:(gw (k' (s'.runT (ag P F) w' #[]).1)).drawn<=w'.drawn+m) (hk:∀r,(world r).drawn<=(gw (k' r)).drawn)
 (P8:∀x w1,dead x->∃o w2 es,k (.halt x w1)=.ended o w2 es)
 (lQ:∀c n w1 fG x y,bQ P S (KS P S) N p w w' c n w1 fG->Q (ext p w.heap.size w'.heap.size c) x y->jP (m-n) w1 fG->(gw (k' (.ok y fG))).drawn<=fG.drawn+(m-n)->
   cU P S H N (ext p w.heap.size w'.heap.size c) w1 fG b bs aL (k (.ok x w1)) (k' (.ok y fG)))
 (MC:∀c n w1 fG v v',bQ P S (KS P S) N p w w' c n w1 fG->VR S (ext p w.heap.size w'.heap.size c) v v'->
   cU P S H N (ext p w.heap.size w'.heap.size c) w1 fG b bs aL (k (.halt (.panic v) w1)) (k' (.halt (.panic v') fG))):
 cU P S H N p w w' b bs aL (GStep.after (ev (s.runT P w #[]).1 (s.runT P w #[]).2) (k (s.runT P w #[]).1)) (GStep.after (MB (s'.runT (ag P F) w' #[]).1 (s'.runT (ag P F) w' #[]).2) (k' (s'.runT (ag P F) w' #[]).1)):=by
 have ho:=SR.sound h w w' #[] #[] m hw hm (Nat.le_trans (hk _) hd);rcases ho with⟨x,w1,es1,e,hx⟩|⟨c,n,w1,fG,es1,fs,k1,k2,⟨x,y,e,e',hq⟩|⟨v,v',e,e',hv⟩⟩
 .rw[e];obtain⟨o,w2,es,e2⟩:=P8 x w1 hx;simp only[e2];exact .inl ⟨o,w2,_,rfl⟩
 .rw[e']at hd;simp only at hd;have Zj:(world (.ok y fG:Result β)).drawn<=w'.drawn+m:=Nat.le_trans (hk _) hd;simp only[world]at Zj;rw[k1.kc]at Zj;rw[e,e'];simp only[Array.empty_append];refine cU.trans k1 (fun z hz=>k2 z (aS _ _ _ hz)) (lQ c n w1 fG x y k1 hq (hm.P7 k1) ?_);rw[k1.kc];omega
 .rw[e,e'];simp only[Array.empty_append];exact cU.trans k1 (fun z hz=>k2 z (aS _ _ _ hz)) (MC c n w1 fG v v' k1 hv)
end
section
variable {P:Program} {F:Array Func} {S:Nat->Bool} {K:Kz} {N:Nat} {p:Pi}
structure La (S:Nat->Bool) (K:Kz) (p:Pi) (l l':Loop):Prop where
 h1:l.state=l'.state
 h2:l.pending=l'.pending
 h3:l.fn=l'.fn
 h4:AR S p l.tmps l'.tmps
 h5:l.params=l'.params
 h6:l.assign=l'.assign
 h7:l.body=l'.body
 h8:p l.defers l'.defers
 k1:S l.fn=true
 k2:K l.assign
 k3:K l.body
 k4:∀c,l.pending=some c->K c
 k5:K (.label (100000+l.fn))
theorem La.or {l l':Loop} (x:La S K p l l'):OR S K p (.loop l) (.loop l'):=.loop x.h1 x.h2 x.h3 x.h4 x.h5 x.h6 x.h7 x.h8 x.k1 x.k2 x.k3 x.k4 x.k5
theorem SR.getLoop (h:p r r'):SR P F S K N (fun q l l'=>La S K q l l') (Instr.getLoop r) (Instr.getLoop r') p:=by
 unfold Instr.getLoop;refine(SR.getObj h).bind fun q o o' hq ho=>?_;cases ho<;>first|exact SR.stuck|skip
 rename_i h1 h2 h3 h4 h5 h6 h7 h8 k1 k2 k3 k4 k5;exact SR.pure ⟨h1,h2,h3,h4,h5,h6,h7,h8,k1,k2,k3,k4,k5⟩
theorem SR.enterLoop {f f':Nat} (hff:f=f') (hf:S f=true) (hz:K (.label (100000+f))) (hx:AR S p xs cB) (ps:Array Tmp) {a c:Code} (ha:K a) (hc:K c) {o o':Option Nat} (ho:RR p o o'):
 SR P F S K N (fun q x y=>q x.1 y.1/\DL q x.2 y.2) (Instr.enterLoop f xs ps a c o) (Instr.enterLoop f' cB ps a c o') p:=by
 subst hff;unfold Instr.enterLoop;cases ho with
 |none=>
  simp only[bind_assoc,pure_bind];refine(SR.newObj .dA fun _ _ _ _ _ _ _ a=>by cases a).bind fun q r r' hq hr=>?_;refine(SR.newObj (La.or (l:={state:=.ready,pending:=none,fn:=f,tmps:=xs,params:=ps,assign:=a,body:=c,defers:=r}) (l':={state:=.ready,pending:=none,fn:=f,tmps:=cB,params:=ps,assign:=a,body:=c,defers:=r'}) ⟨rfl,rfl,rfl,hx.mono hq,rfl,rfl,rfl,hr.1,hf,ha,hc,fun c h=>(by cases h),hz⟩) fun _ _ _ _ _ _ _ a=>by cases a).bind fun q2 s s' bR hs=>?_;exact SR.pure ⟨hs.1,.cons (bR _ _ hr.1) .nil⟩
 |some h=>
  simp only[bind_assoc,pure_bind];refine(SR.getLoop h).bind fun q r r' hq hr=>?_;refine(SR.newObj (La.or (l:={state:=.ready,pending:=none,fn:=f,tmps:=xs,params:=ps,assign:=a,body:=c,defers:=r.defers}) (l':={state:=.ready,pending:=none,fn:=f,tmps:=cB,params:=ps,assign:=a,body:=c,defers:=r'.defers}) ⟨rfl,rfl,rfl,hx.mono hq,rfl,rfl,rfl,hr.h8,hf,ha,hc,fun c h=>(by cases h),hz⟩) fun _ _ _ _ _ _ _ a=>by cases a).bind fun q2 s s' bR hs=>?_;exact SR.pure ⟨hs.1,.nil⟩
theorem SR.beginRound (h:p r r'):SR P F S K N (QE Unit) (Instr.beginRound r) (Instr.beginRound r') p:=by
 unfold Instr.beginRound;refine(SR.getLoop h).bind fun q l l' hq hl=>?_;refine(SR.setObj (hq _ _ h) (La.or (l:={l with state:=.busy}) (l':={l' with state:=.busy}) ⟨rfl,hl.h2,hl.h3,hl.h4,hl.h5,hl.h6,hl.h7,hl.h8,hl.k1,hl.k2,hl.k3,hl.k4,hl.k5⟩) fun _ _ _ _ _ _ _ a=>by cases a).av fun q2 _ bR=>?_;rw[<-hl.h1];cases l.state with
 |ready=>exact SR.pure rfl
 |done=>exact SR.err _
 |busy=>exact SR.err _
 |exhausted=>exact SR.err _
theorem SR.endRound (h:p r r') (j:Option Code) (hj:∀c,j=some c->K c):SR P F S K N (QV S) (Instr.endRound r j) (Instr.endRound r' j) p:=by
 unfold Instr.endRound;refine(SR.getLoop h).bind fun q l l' hq hl=>?_;refine(SR.setObj (hq _ _ h) (La.or (l:={l with state:=if j.isNone then .ready else .done,pending:=j}) (l':={l' with state:=if j.isNone then .ready else .done,pending:=j}) ⟨rfl,rfl,hl.h3,hl.h4,hl.h5,hl.h6,hl.h7,hl.h8,hl.k1,hl.k2,hl.k3,hj,hl.k5⟩) fun _ _ _ _ _ _ _ a=>by cases a).av fun q2 _ bR=>?_;exact SR.pure (VR.plain 2 _ rfl)
theorem SR.endLoop (h:p r r'):SR P F S K N (fun _ a b=>a=b/\∀c,a=some c->K c) (Instr.endLoop r) (Instr.endLoop r') p:=by
 unfold Instr.endLoop;refine(SR.getLoop h).bind fun q l l' hq hl=>?_;rw[<-hl.h1]
 have tail:∀q2,Le q q2->SR P F S K N (fun _ a b=>a=b/\∀c,a=some c->K c) (Go.setObj r (.loop {l with state:=.exhausted})>>=fun _=>(Pure.pure l.pending:Sem (Option Code))) (Go.setObj r' (.loop {l' with state:=.exhausted})>>=fun _=>(Pure.pure l'.pending:Sem (Option Code))) q2:=fun q2 bR=>by
  refine(SR.setObj (bR _ _ (hq _ _ h)) (La.or (l:={l with state:=.exhausted}) (l':={l' with state:=.exhausted}) ⟨rfl,hl.h2,hl.h3,hl.h4.mono bR,hl.h5,hl.h6,hl.h7,bR _ _ hl.h8,hl.k1,hl.k2,hl.k3,hl.k4,hl.k5⟩) fun _ _ _ _ _ _ _ a=>by cases a).av fun q3 _ fQ=>?_;exact SR.pure ⟨hl.h2,hl.k4⟩
 split
 .exact(SR.err (α:=PUnit) (β:=PUnit) (Q:=QE PUnit) _).av fun q2 _ bR=>tail q2 bR
 .exact tail q (Le.refl q)
theorem SR.takeDeferred (h:p r r'):SR P F S K N (fun _ a b=>a=[]/\b=[]) (Instr.takeDeferred r) (Instr.takeDeferred r') p:=by
 unfold Instr.takeDeferred;refine(SR.getObj h).bind fun q o o' hq ho=>?_;cases ho<;>first|exact SR.stuck|skip
 refine(SR.setObj (hq _ _ h) .dy fun _ _ _ _ _ _ _ a=>by cases a).av fun q2 _ bR=>?_;exact SR.pure ⟨rfl,rfl⟩
theorem SR.P9 (f f':α->Sem Value):∀(l:List α) {p:Pi} {acc zk:Array Value},(∀x q,Le p q->SR P F S K N (QV S) (f x) (f' x) q)->AR S p acc zk->
 SR P F S K N (QA S) (l.foldlM (fun bs a=>Functor.map bs.push (f a)) acc) (l.foldlM (fun bs a=>Functor.map bs.push (f' a)) zk) p:=by
 intro l;induction l with
 |nil=>intro p acc zk _ ha;exact SR.pure ha
 |cons x l ih=>
  intro p acc zk h ha;simp only[List.foldlM_cons];refine SR.bind (Q:=QA S) ?_ fun q a b hq mH=>ih (fun y q2 bR=>h y q2 (hq.trans bR)) mH;exact(h x p (Le.refl p)).bind fun q b b' hq hb=>SR.pure ((ha.mono hq).push hb)
theorem SR.results {fn j8:Func} (hr:fn.results=j8.results) (h:AR S p xs cB):SR P F S K N (QV S) (Go.results fn xs) (Go.results j8 cB) p:=by
 unfold Go.results;rw[<-hr];refine SR.bind (Q:=QA S) ?_ fun q vs K6 hq hv=>?_
 .rw[Array.mapM_eq_foldlM,<-Array.foldlM_toList,Array.mapM_eq_foldlM,<-Array.foldlM_toList];refine SR.P9 _ _ _ (fun x q hq=>?_) AR.empty;cases x with
  |tmp t=>exact SR.pure ((h.mono hq).getD t VR.undef)
  |cell a t=>exact(SR.asAddr ((h.mono hq).getD a VR.undef)).bind fun q2 a a' bR ha=>SR.loadVar t ha
 .refine SR.pure ?_;have:=hv.1;by_cases h1:vs.size=1
  .have wH:K6.size=1:=by omega
   simp only[h1,wH,dif_pos];exact hv.2 0 _ _ (by simp[h1]) (by simp[wH])
  .have wH:K6.size≠1:=by omega
   simp only[h1,wH,dif_neg,not_false_eq_true];exact hv.tuple
end
section
variable {P:Program} {F:Array Func} {S:Nat->Bool} {H:FuncId->Code->Code->Prop} {N:Nat} {p:Pi} {w w':World} {b:Frame} {bs:List Frame} {aL:List Frame}
theorem I1 {f:Nat} (h:KS P S (.label (100000+f))):S (P.funcs.size+P.globals.size+1+f)=false:=by
 have h:(decide (100000+f<100000)||!S (P.funcs.size+P.globals.size+1+(100000+f-100000)))=true:=h;rw[Nat.add_sub_cancel_left,decide_eq_false (by omega),Bool.false_or]at h;simpa using h
theorem I2 {f:Nat} (h:S (P.funcs.size+P.globals.size+1+f)=false):KS P S (.label (100000+f)):=by
 show(decide (100000+f<100000)||!S (P.funcs.size+P.globals.size+1+(100000+f-100000)))=true;rw[Nat.add_sub_cancel_left,h];simp
theorem TL.kind {H:Code->Code->Prop} (h:TL P S H p l l'):(match l with|.call _ true _ _::_=>CallKind.wrapped|_=>CallKind.normal)=.normal/\(match l' with|.call _ true _ _::_=>CallKind.wrapped|_=>CallKind.normal)=.normal:=by
 cases h with
 |nil=>exact⟨rfl,rfl⟩
 |cons hi ht=>cases hi<;>exact⟨rfl,rfl⟩
theorem FL.head (h:FL P S H p (f::t) (f'::t')):jX P S H p f f':=by
 cases h with
 |one h=>exact h
 |cons h=>exact h
theorem FL.top {g':Frame} (h:FL P S H p (f::t) (f'::t')) (hg:jX P S H p g g') (hr:g.roundOf=f.roundOf/\g.fn=f.fn):FL P S H p (g::t) (g'::t'):=by
 cases h with
 |one h r=>exact .one hg ⟨hr.1.trans r.1,by rw[hr.2];exact r.2⟩
 |cons h t=>exact .cons hg t
theorem dn (f:Frame) (v:Value):(f.finish v).roundOf=f.roundOf/\(f.finish v).fn=f.fn:=by
 unfold Frame.finish;split<;>exact⟨rfl,rfl⟩
theorem iq (f:Frame) (v:List PanicEntry):(f.raise v).roundOf=f.roundOf/\(f.raise v).fn=f.fn:=by
 unfold Frame.raise;split<;>exact⟨rfl,rfl⟩
theorem cU.apply (hc:Closed P F S H) (hw:WR P S (KS P S) N p w w') {top:List Frame} (hf:FL P S H p (f::top) (f'::cY)) (hm:jP m w w')
 {s s':Sem Next} (hs:SR P F S (KS P S) N (QX S (KS P S)) s s' p) (hd:(gw (stepG.apply (ag P F) true f' (cY++aL) none s' w')).drawn<=w'.drawn+m):
 cU P S H N p w w' b bs aL (stepG.apply P true f (top++b::bs) none s w) (stepG.apply (ag P F) true f' (cY++aL) none s' w'):=by
 have ho:=SR.sound hs w w' #[] #[] m hw hm (Nat.le_trans (oY ..) hd);have fY:=hf.head;have hk:=fY.todo.kind;have Qa:(f'.kind==CallKind.early)=false:=by rw[fY.jO];rfl
 rcases ho with⟨x,w1,es1,e,hx⟩|⟨c,n,w1,fG,es1,fs,k1,k2,⟨x,y,e,e',hq⟩|⟨v,v',e,e',hv⟩⟩
 .cases x with
  |stuck Zk=>exact .inl ⟨_,_,_,by simp only[stepG.apply,if_true,e];rfl⟩
  |unsupported u=>cases u<;>first|exact absurd hx id|exact .inl ⟨_,_,_,by simp only[stepG.apply,if_true,e];rfl⟩
  |_=>exact absurd hx id
 .rw[Array.empty_append]at e';have hle:=eA p w.heap.size w'.heap.size c;have aS:∀z∈seen (ag P F) f'.fn fs,Ib N (ext p w.heap.size w'.heap.size c) z:=fun z hz=>k2 z (mem_seen hz);have y8:=hf.mono hle;cases hq with
  | @value v v' h=>
    have t:=cU.trans (b:=b) (bs:=bs) (aL:=aL) k1 (es:=seen P f.fn (if f.kind==CallKind.early then #[]else es1)) aS (cU.go k1.rel (y8.top (y8.head.finish h) (dn f v)));simpa only[stepG.apply,if_true,e,e',Qa,Bool.false_eq_true,if_false,GStep.after]using t
  |skip=>
   have t:=cU.trans (b:=b) (bs:=bs) (aL:=aL) k1 (es:=seen P f.fn (if f.kind==CallKind.early then #[]else es1)) aS (cU.go k1.rel (y8.top (y8.head.finish VR.undef) (dn f _)));simpa only[stepG.apply,if_true,e,e',Qa,Bool.false_eq_true,if_false,GStep.after]using t
  | @enter g xs cB hg h=>
    have t:=cU.trans (b:=b) (bs:=bs) (aL:=aL) k1 (es:=seen P f.fn (if f.kind==CallKind.early then #[]else es1)) aS (cU.go k1.rel (FL.cons (jX.enter hc hg h hk.1 hk.2) y8));simp only[stepG.apply,if_true,e,e',Qa,Bool.false_eq_true,if_false,GStep.after];exact t
  | @round l l' g xs cB a1 a2 hl hg h h1 h2 hz=>
    have hn:∀a b,¬H g a b:=(hc.tx g hg).2 (I1 hz);have t:=cU.trans (b:=b) (bs:=bs) (aL:=aL) k1 (es:=seen P f.fn (if f.kind==CallKind.early then #[]else es1)) aS (cU.go k1.rel (FL.cons (jX.IZ hn hl hg h h1 h2) y8));simpa only[stepG.apply,if_true,e,e',Qa,Bool.false_eq_true,if_false,GStep.after,List.cons_append]using t
 .rw[Array.empty_append]at e';have hle:=eA p w.heap.size w'.heap.size c;have aS:∀z∈seen (ag P F) f'.fn fs,Ib N (ext p w.heap.size w'.heap.size c) z:=fun z hz=>k2 z (mem_seen hz);have y8:=hf.mono hle;have t:=cU.trans (b:=b) (bs:=bs) (aL:=aL) k1 (es:=seen P f.fn (if f.kind==CallKind.early then #[]else es1)) aS (cU.go k1.rel (y8.top (y8.head.raise (.cons false false hv .nil)) (iq f _)));simpa only[stepG.apply,if_true,e,e',Qa,Bool.false_eq_true,if_false,GStep.after]using t
end
section
variable {P:Program} {F:Array Func} {S:Nat->Bool} {H:FuncId->Code->Code->Prop} {N:Nat} {p:Pi} {w w':World} {b:Frame} {bs:List Frame} {aL:List Frame}
def MD (P:Program) (S:Nat->Bool) (main':Bool) (aL:List Frame):Prop:=aL=[]->main'=true/\∀f,S f=true->P.inits.idxOf? f=none
theorem cU.doReturn (hw:WR P S (KS P S) N p w w') {top:List Frame} (hf:FL P S H p (f::top) (f'::cY)) (main main':Bool) (hb:MD P S main' aL) (hv:VR S p v v'):
 cU P S H N p w w' b bs aL (Go.doReturn P main f (top++b::bs) none v w) (Go.doReturn (ag P F) main' f' (cY++aL) none v' w'):=by
 have h1:=hf.head.kind;have h2:=hf.head.jO;have h3:=hf.head.fn;have h4:=hf.head.K9;cases hf with
 |one h r=>
  cases aL with
  |nil=>
   obtain⟨rfl,fk⟩:=hb rfl;have hi:(ag P F).inits.idxOf? f'.fn=none:=by rw[<-h3];exact fk _ h4
   unfold Go.doReturn;simp only[h1,h2,List.nil_append,hi];exact cU.I0 hw hv
  |cons b' uB=>unfold Go.doReturn;rw[h1,h2];exact cU.ret hw hv b' uB
 |cons h t=>
  unfold Go.doReturn;rw[h1,h2];cases t with
  |one h r=>exact cU.go hw (.one (h.finish hv) ⟨(dn _ _).1.trans r.1,by rw[(dn _ _).2];exact r.2⟩)
  |cons h t=>exact cU.go hw (.cons (h.finish hv) t)
def uC:Option Code->Bool
 |none=>true
 |some .ret=>true
 |_=>false
def gq (P:Program) (main:Bool) (fr:Frame) (callers:List Frame) (jump:Option Code) (w:World):GStep:=
 match fr.roundOf with
 |none=>if uC jump then .go {frame:={fr with mode:=.returning},callers,status:=.running,dying:=none} w else .ended (.stuck "exit, goto: no such block or label" (fr.pos P)) w
 |some l=>
  GStep.after (seen P fr.fn ((Instr.endRound l jump).runT P w #[]).2)<|match((Instr.endRound l jump).runT P w #[]).1 with
  |.ok v w=>Go.doReturn P main fr callers none v w
  |.halt _ w=>.ended (.stuck "range over a function: no such loop" (fr.pos P)) w
theorem kl (main:Bool) (f:Frame) (cs:List Frame) (hk:f.kind=.normal) (v:Value) (w:World):gw (Go.doReturn P main f cs none v w)=w:=by
 unfold Go.doReturn;rw[hk];cases cs with
 |nil=>
  simp only;split
  .rfl
  .split<;>rfl
 |cons c cs=>rfl
theorem ir (main:Bool) (h:f.roundOf=none) (cs:List Frame) (jump:Option Code) (w:World):
 gq P main f cs jump w=if uC jump then .go {frame:={f with mode:=.returning},callers:=cs,status:=.running,dying:=none} w else .ended (.stuck "exit, goto: no such block or label" (f.pos P)) w:=by
 unfold gq;split
 .rfl
 .rename_i h2;rw[h]at h2;cases h2
theorem it (main:Bool) {l:Nat} (h:f.roundOf=some l) (cs:List Frame) (jump:Option Code) (w:World):
 gq P main f cs jump w=GStep.after (seen P f.fn ((Instr.endRound l jump).runT P w #[]).2) (match((Instr.endRound l jump).runT P w #[]).1 with
 |.ok v w=>Go.doReturn P main f cs none v w
 |.halt _ w=>.ended (.stuck "range over a function: no such loop" (f.pos P)) w):=by
 unfold gq;split
 .rename_i h2;rw[h]at h2;cases h2
 .rename_i h2;rw[h]at h2;cases h2;rfl
theorem EM {x y:Option Nat} (h:RR p x y):(x=none/\y=none)\/∃l l',x=some l/\y=some l'/\p l l':=by
 cases h with
 |none=>exact .inl ⟨rfl,rfl⟩
 |some h=>exact .inr ⟨_,_,rfl,rfl,h⟩
theorem cU.leave (hw:WR P S (KS P S) N p w w') {top:List Frame} (hf:FL P S H p (f::top) (f'::cY)) (main main':Bool) (hb:MD P S main' aL) (jump:Option Code) (hj:∀c,jump=some c->codeOk P S c=true)
 (hm:jP m w w') (hd:(gw (gq (ag P F) main' f' (cY++aL) jump w')).drawn<=w'.drawn+m):
 cU P S H N p w w' b bs aL (gq P main f (top++b::bs) jump w) (gq (ag P F) main' f' (cY++aL) jump w'):=by
 have fY:=hf.head;rcases EM fY.round with⟨h1,h2⟩|⟨l,l',h1,h2,hl⟩
 .rw[ir main h1,ir main' h2];cases hj:uC jump with
  |true=>exact cU.go hw (hf.top (g:={f with mode:=.returning}) (g':={f' with mode:=.returning}) ⟨fY.fn,fY.K9,fY.tmps,fY.todo,fY.defers,.returning,fY.kind,fY.jO,fY.round,fY.tx,fY.nd,fY.wide⟩ ⟨rfl,rfl⟩)
  |false=>exact cU.ended ..
 .rw[it main' h2]at hd;rw[it main h1,it main' h2];rw[iY]at hd
  refine cU.run (SR.endRound hl jump hj) hw hm (ev:=fun r es=>seen P f.fn es) (MB:=fun r es=>seen (ag P F) f'.fn es) (fun r es e he=>mem_seen he)
   (k:=fun r=>match r with|.ok v w=>Go.doReturn P main f (top++b::bs) none v w|.halt _ w=>.ended (.stuck "range over a function: no such loop" (f.pos P)) w)
   (k':=fun r=>match r with|.ok v w=>Go.doReturn (ag P F) main' f' (cY++aL) none v w|.halt _ w=>.ended (.stuck "range over a function: no such loop" (f'.pos (ag P F))) w)
   hd ?_ ?_ ?_ ?_
  .intro r;cases r with
   |ok v w=>simp only;rw[kl _ _ _ fY.jO];exact Nat.le_refl _
   |halt=>exact Nat.le_refl _
  .intro x w1 _;exact⟨_,_,_,rfl⟩
  .intro c n w1 fG x y pM hv _ _;exact cU.doReturn pM.rel (hf.mono (eA _ _ _ _)) main main' hb hv
  .intro c n w1 fG v v' pM hv;exact cU.ended ..
theorem jX.mk' (h:jX P S H p f f') (hl:TL P S (H f.fn) p l l') {ds lB:List Deferred} (hd:DL p ds lB) (CN:(ds=[]/\lB=[])\/∀a b,¬H f.fn a b):jX P S H p {f with todo:=l,defers:=ds} {f' with todo:=l',defers:=lB}:=
 ⟨h.fn,h.K9,h.tmps,hl,hd,h.mode,h.kind,h.jO,h.round,h.tx,CN,h.wide⟩
theorem DL.append {l l' m m':List Deferred} (h:DL p l l') (k:DL p m m'):DL p (l++m) (l'++m'):=by
 induction h with
 |nil=>exact k
 |cons g _ ih=>exact .cons g ih
end
theorem WR.no {P:Program} {S:Nat->Bool} {K:Kz} {N:Nat} {p:Pi} {w w':World} (h:WR P S K N p w w') {a:Prop} (x:p.l=true):a:=by rw[h.str]at x;cases x
section
variable {P:Program} {F:Array Func} {S:Nat->Bool} {H:FuncId->Code->Code->Prop} {N:Nat} {p:Pi} {w w':World} {b:Frame} {bs:List Frame} {aL:List Frame}
theorem dM (main:Bool) (h:f.todo=[]) (cs:List Frame) (w:World):stepG.exec P main true f cs none w=gq P main f cs none w:=by
 obtain⟨fn,tmps,todo,ds,mode,kind,ro⟩:=f;simp only at h;subst h;cases ro<;>rfl
theorem dN (main:Bool) (h:f.todo=.code .ret::k) (cs:List Frame) (w:World):stepG.exec P main true f cs none w=gq P main f cs (some .ret) w:=by
 obtain⟨fn,tmps,todo,ds,mode,kind,ro⟩:=f;simp only at h;subst h;cases ro<;>rfl
theorem dv (main:Bool) (h:f.todo=.code (.exit id)::k) (cs:List Frame) (w:World):
 stepG.exec P main true f cs none w=match exitTo id k with|none=>gq P main f cs (some (.exit id)) w|some t=>.go {frame:={f with todo:=t},callers:=cs,status:=.running,dying:=none} w:=by
 obtain⟨fn,tmps,todo,ds,mode,kind,ro⟩:=f;simp only at h;subst h;cases ro<;>(unfold stepG.exec;dsimp only;cases exitTo id k<;>rfl)
theorem dw (main:Bool) (h:f.todo=.code (.goto id)::k) (cs:List Frame) (w:World):
 stepG.exec P main true f cs none w=match gotoIn id k with|none=>gq P main f cs (some (.goto id)) w|some t=>.go {frame:={f with todo:=t},callers:=cs,status:=.running,dying:=none} w:=by
 obtain⟨fn,tmps,todo,ds,mode,kind,ro⟩:=f;simp only at h;subst h;cases ro<;>(unfold stepG.exec;dsimp only;cases gotoIn id k<;>rfl)
theorem cU.exec (hc:Closed P F S H) (hw:WR P S (KS P S) N p w w') (hg:gU P S p) {top:List Frame} (hf:FL P S H p (f::top) (f'::cY)) (U7:∀c c' k k',f.todo=.code c::k->f'.todo=.code c'::k'->¬H f.fn c c') (im:f'.mode=.run->¬nX S f') (lS:f'.mode=.run) (main main':Bool) (hb:MD P S main' aL)
 (hm:jP m w w') (hd:(gw (stepG.exec (ag P F) main' true f' (cY++aL) none w')).drawn<=w'.drawn+m):
 cU P S H N p w w' b bs aL (stepG.exec P main true f (top++b::bs) none w) (stepG.exec (ag P F) main' true f' (cY++aL) none w'):=by
 have fY:=hf.head
 have vZ:∀{l l':List Item},TL P S (H f.fn) p l l'->cU P S H N p w w' b bs aL (.go {frame:={f with todo:=l},callers:=top++b::bs,status:=.running,dying:=none} w) (.go {frame:={f' with todo:=l'},callers:=cY++aL,status:=.running,dying:=none} w'):=
  fun h=>cU.go hw (hf.top (fY.zr h) ⟨rfl,rfl⟩)
 have ht:=fY.todo;have aS:=fY.eval hg;generalize h1:f.todo=t at ht;generalize h2:f'.todo=t' at ht;cases ht with
 |nil=>
  rw[dM main' h2]at hd;rw[dM main h1,dM main' h2];exact cU.leave hw hf main main' hb none (fun c h=>by cases h) hm hd
 | @cons i i' k k' hi ht=>
   cases hi with
   | @code c c' Lc=>
     cases Lc with
     |hole hh=>exact absurd hh (U7 _ _ _ _ h1 h2)
     |seq ha hb=>unfold stepG.exec;simp only[h1,h2];exact vZ (.cons (.code ha) (.cons (.code hb) ht))
     |block id ha=>unfold stepG.exec;simp only[h1,h2];exact vZ (.cons (.code ha) (.cons (.inBlock id) ht))
     |loop ha=>unfold stepG.exec;simp only[h1,h2];exact vZ (.cons (.code ha) (.cons (.inLoop ha) ht))
     |refuse Zk c2 hr=>unfold stepG.exec;simp only[h1];exact cU.ended ..
     | @cond x a a' c c' hx ha hb=>
       have hx:=aS.at hx;unfold stepG.exec;simp only[h1,h2];revert hx;generalize f.eval x=v;generalize f'.eval x=v';intro hx;cases hx<;>first|exact cU.ended .. |skip
       rename_i bo;refine vZ (.cons (.code ?_) ht);cases bo
       .exact hb
       .exact ha
     |same fE Eo=>
      cases c with
      |ret=>
       rw[dN main' h2]at hd;rw[dN main h1,dN main' h2];exact cU.leave hw hf main main' hb (some .ret) (fun c h=>by cases h;rfl) hm hd
      |exit id=>
       rw[dv main' h2]at hd;rw[dv main h1,dv main' h2];rcases zs id ht with⟨e1,e2⟩|⟨j,j',e1,e2,hj⟩
       .rw[e2]at hd;rw[e1,e2];exact cU.leave hw hf main main' hb (some (.exit id)) (fun c h=>by cases h;rfl) hm hd
       .rw[e1,e2];exact vZ hj
      |goto id=>
       rw[dw main' h2]at hd;rw[dw main h1,dw main' h2];rcases zu id ht with⟨e1,e2⟩|⟨j,j',e1,e2,hj⟩
       .rw[e2]at hd;rw[e1,e2];exact cU.leave hw hf main main' hb (some (.goto id)) (fun c h=>by cases h;rfl) hm hd
       .rw[e1,e2];exact vZ hj
      |skip=>
       unfold stepG.exec;simp only[h1,h2];exact vZ ht
      |label l=>
       unfold stepG.exec;simp only[h1,h2];exact vZ ht
      |seq a c=>
       simp only[codeOk,cD,Bool.and_eq_true]at fE Eo;unfold stepG.exec;simp only[h1,h2];exact vZ (.cons (.code (.same fE.1 (Eo.imp And.left fun x=>x))) (.cons (.code (.same fE.2 (Eo.imp And.right fun x=>x))) ht))
      |cond x a c=>
       simp only[codeOk,cD,Bool.and_eq_true]at fE Eo;have hx:=aS.at fE.1.1;unfold stepG.exec;simp only[h1,h2];revert hx;generalize f.eval x=v;generalize f'.eval x=v';intro hx;cases hx<;>first|exact cU.ended .. |skip
       rename_i bo;refine vZ (.cons (.code ?_) ht);cases bo
       .exact .same fE.2 (Eo.imp And.right fun x=>x)
       .exact .same fE.1.2 (Eo.imp And.left fun x=>x)
      |block id c=>
       unfold stepG.exec;simp only[h1,h2];exact vZ (.cons (.code (.same fE Eo)) (.cons (.inBlock id) ht))
      |loop c=>
       unfold stepG.exec;simp only[h1,h2];exact vZ (.cons (.code (.same fE Eo)) (.cons (.inLoop (.same fE Eo)) ht))
      |scope c=>
       unfold stepG.exec;simp only[h1,h2];exact vZ (.cons (.code (.same fE Eo)) (.cons (.inScope fE Eo) ht))
      |refuse Zk=>unfold stepG.exec;simp only[h1,h2];exact cU.ended ..
      |region id ops draw=>
       have qF:∀o∈ops,(mK P S o.op||fh S o.op)=true:=fun o ho=>(Array.all_eq_true_iff_forall_mem.1 fE) o ho;unfold stepG.exec at hd⊢;simp only[h1,h2]at hd⊢;cases draw with
       |false=>exact vZ (.cons (.inRegion _ qF) ht)
       |true=>
        simp only[Bool.not_true,Bool.false_eq_true,if_false,choose,Sem.run,Question.forced,Question.cut]at hd⊢
        have CH:0<m:=by
         simp only[gw]at hd;omega
        have Zl:=hm 0 CH (.order f'.fn id);simp only[Nat.add_zero]at Zl;have ht1:w.tape w.drawn (.order f.fn id)=w'.tape w'.drawn (.order f'.fn id):=by rw[fY.fn];exact Zl
        rw[ht1];have fV:WR P S (KS P S) N p {w with drawn:=w.drawn+1} {w' with drawn:=w'.drawn+1}:=⟨hw.inj,hw.blk,hw.low,hw.fix,hw.fg,hw.iU,hw.str,hw.sB⟩
        have tk:bQ P S (KS P S) N p w w' 0 1 {w with drawn:=w.drawn+1} {w' with drawn:=w'.drawn+1}:=
         ⟨by rw[bk];exact fV,rfl,rfl,rfl,rfl,rfl,rfl,rfl,rfl,fun _ _ _=>rfl⟩
        refine .inr (.inr ⟨0,1,_,_,#[],#[],tk,by simp,.inl ⟨_,_,top,cY,?_,rfl,rfl⟩⟩);rw[bk];exact hf.top (fY.zr (.cons (.inRegion _ qF) ht)) ⟨rfl,rfl⟩
      |rangeFunc x ps a c=>
       simp only[codeOk,Bool.and_eq_true]at fE;unfold stepG.exec at hd⊢;simp only[h1,h2]at hd⊢;rw[iY]at hd;have im:∀a b,¬H f.fn a b:=Eo.resolve_left (by simp[cD]);have hz:KS P S (.label (100000+f.fn)):=I2 ((hc.tx f.fn fY.K9).1 im)
       refine cU.run (SR.enterLoop fY.fn fY.K9 hz fY.tmps ps fE.1.2 fE.2 fY.round) hw hm (ev:=fun r es=>seen P f.fn es) (MB:=fun r es=>seen (ag P F) f'.fn es) (fun r es e he=>mem_seen he)
        (k:=fun r=>match r with
          |.ok (l,mark) w=>stepG.apply P true {f with todo:=.inRangeFunc l::k,defers:=mark++f.defers} (top++b::bs) none
             (do let d<-resolve (Frame.eval {f with todo:=.inRangeFunc l::k,defers:=mark++f.defers}) {callee:=.value x,args:=#[.const (.func (.yield l) #[] #[])],argTypes:=#[]} 0;invoke d.target d.args) w
          |.halt _ w=>.ended (.stuck "range over a function: no such loop" (f.pos P)) w)
        (k':=fun r=>match r with
          |.ok (l,mark) w=>stepG.apply (ag P F) true {f' with todo:=.inRangeFunc l::k',defers:=mark++f'.defers} (cY++aL) none
             (do let d<-resolve (Frame.eval {f' with todo:=.inRangeFunc l::k',defers:=mark++f'.defers}) {callee:=.value x,args:=#[.const (.func (.yield l) #[] #[])],argTypes:=#[]} 0;invoke d.target d.args) w
          |.halt _ w=>.ended (.stuck "range over a function: no such loop" (f'.pos (ag P F))) w)
        ?_ ?_ ?_ ?_ ?_
       .exact hd
       .intro r;cases r with
        |ok x w1=>exact Nat.le_trans (lM (ag P F) _ w1 #[]) (oY ..)
        |halt=>exact Nat.le_refl _
       .intro x w1 _;exact⟨_,_,_,rfl⟩
       .intro cc n w1 fG y y' pM hy tk CO;obtain⟨l,mark⟩:=y;obtain⟨l',qI⟩:=y';have hle:=eA p w.heap.size w'.heap.size cc;have Qb:=(fY.mono hle).mk' (.cons (.mL hy.1 im) (ht.mono hle)) (hy.2.append (fY.defers.mono hle)) (.inr im);refine cU.apply hc pM.rel ((hf.mono hle).top Qb ⟨rfl,rfl⟩) tk ?_ CO;refine SR.kh hc.lP ?_ ?_
        .exact(Qb.eval (hg.mono hle)).at fE.1.1
        .have:=AR.one (S:=S) (VR.yield (S:=S) hy.1);simpa [Frame.eval]using this
       .intro cc n w1 fG v v' pM hv;exact cU.ended ..
   | @inBlock id=>unfold stepG.exec;simp only[h1,h2];exact vZ ht
   | @inScope c fE _=>unfold stepG.exec;simp only[h1,h2];exact vZ ht
   | @inLoop c c' Lc=>unfold stepG.exec;simp only[h1,h2];exact vZ (.cons (.code Lc) (.cons (.inLoop Lc) ht))
   | @mL l l' hl _=>unfold stepG.exec;simp only[h1,h2];exact cU.ended ..
   | @begin=>
     unfold stepG.exec at hd⊢;simp only[h1,h2]at hd⊢;refine cU.apply hc hw hf hm ?_ hd;rcases EM fY.round with⟨e1,e2⟩|⟨l,l',e1,e2,hl⟩
     .rw[e1,e2];exact(SR.stuck (α:=Unit) (β:=Unit) (Q:=QE Unit)).av fun q _ hq=>SR.pure .skip
     .rw[e1,e2];exact(SR.beginRound hl).av fun q _ hq=>SR.pure .skip
   | @iX l l' hl im=>
     unfold stepG.exec at hd⊢;simp only[h1,h2]at hd⊢;rw[iY]at hd
     refine cU.run (SR.endLoop hl) hw hm (ev:=fun r es=>seen P f.fn es) (MB:=fun r es=>seen (ag P F) f'.fn es) (fun r es e he=>mem_seen he)
      (k:=fun r=>match r with
        |.ok jump w=>.go {frame:={f with todo:=(jump.map Item.code).toList++k},callers:=top++b::bs,status:=.running,dying:=none} w
        |.halt (.panic v) w=>.go {frame:=f.raise [{v,recovered:=false}],callers:=top++b::bs,status:=.running,dying:=none} w
        |.halt _ w=>.ended (.stuck "range over a function: no such loop" (f.pos P)) w)
      (k':=fun r=>match r with
        |.ok jump w=>.go {frame:={f' with todo:=(jump.map Item.code).toList++k'},callers:=cY++aL,status:=.running,dying:=none} w
        |.halt (.panic v) w=>.go {frame:=f'.raise [{v,recovered:=false}],callers:=cY++aL,status:=.running,dying:=none} w
        |.halt _ w=>.ended (.stuck "range over a function: no such loop" (f'.pos (ag P F))) w)
      hd ?_ ?_ ?_ ?_
     .intro r;cases r with
      |ok x w1=>exact Nat.le_refl _
      |halt x w1=>cases x<;>exact Nat.le_refl _
     .intro x w1 hx;cases x<;>first|exact⟨_,_,_,rfl⟩|exact absurd hx id
     .intro cc n w1 fG y y' pM hy tk CO;have hle:=eA p w.heap.size w'.heap.size cc;obtain⟨rfl,hy⟩:=hy;refine cU.go pM.rel ((hf.mono hle).top ((fY.mono hle).zr ?_) ⟨rfl,rfl⟩);cases y with
      |none=>exact ht.mono hle
      |some c=>exact .cons (.code (.same (hy c rfl) (.inr im))) (ht.mono hle)
     .intro cc n w1 fG v v' pM hv;have hle:=eA p w.heap.size w'.heap.size cc;exact cU.go pM.rel ((hf.mono hle).top ((fY.mono hle).raise (.cons false false hv .nil)) (iq f _))
   | @inRegion ops is qF=>
     cases is with
     |nil=>unfold stepG.exec;simp only[h1,h2];exact vZ ht
     |cons i is=>
      unfold stepG.exec at hd⊢;simp only[h1,h2]at hd⊢;have hy:∀j,yielded ops f'.tmps j=yielded ops f.tmps j:=fun j=>(oX ops fY.tmps j).symm;have Zm:(yielded ops f'.tmps)=(yielded ops f.tmps):=funext hy;rw[Zm]at hd⊢;split at hd
      .rename_i km;rw[if_pos km,if_pos km];have qJ:f.oper?=ops[i]?:=by unfold Frame.oper?;rw[h1]
       have qe:f'.oper?=ops[i]?:=by unfold Frame.oper?;rw[h2]
       unfold stepG.oper at hd⊢;rw[qJ,qe];rw[qe]at hd;cases ho:ops[i]? with
       |none=>exact cU.ended ..
       |some o=>
        rw[ho]at hd
        have ME:mK P S o.op=true:=by
         have h0:=qF o (Array.mem_of_getElem? ho);rw[Bool.or_eq_true]at h0;refine h0.resolve_right fun h3=>im lS ⟨lS,o,ops,i,is,_,h2,ho,h3,?_⟩;rw[Zm];rw[ho]at km;simpa using km
        have CN:∀c,o.op≠ .defer c:=by
         intro c EN;rw[EN]at ME;simp[mK]at ME
        have key:∀(P:Program) (fr:Frame) (cs:List Frame) (w:World),(match fr.roundOf,o.op with
         |some l,.defer c=>stepG.apply P true fr cs none (do Instr.deferInRound l (<-resolve fr.eval c o.type);pure .skip) w
         |_,_=>stepG.apply P true fr cs none (execOp fr.eval o) w)=stepG.apply P true fr cs none (execOp fr.eval o) w:=by
         intro P fr cs w;split
         .rename_i hx;exact absurd hx (CN _)
         .rfl
        have U8:(gw (stepG.apply (ag P F) true f' (cY++aL) none (execOp f'.eval o) w')).drawn<=w'.drawn+m:=by
         rw[<-key (ag P F) f' (cY++aL) w'];exact hd
        have e1:=key P f (top++b::bs) w;have e2:=key (ag P F) f' (cY++aL) w';refine Eq.mpr (congr (congrArg (cU P S H N p w w' b bs aL) e1) e2) ?_;exact cU.apply hc hw hf hm (SR.execOp hw.no hc.gF hc.dm hc.lP aS o ME hw.no hw.no) U8
      .rename_i km;rw[if_neg km,if_neg km];exact cU.go hw (hf.top (fY.finish VR.undef) (dn f _))
end
section
variable {P:Program} {F:Array Func} {S:Nat->Bool} {H:FuncId->Code->Code->Prop} {N:Nat} {p:Pi} {w w':World} {b:Frame} {bs:List Frame} {aL:List Frame}
theorem mN {H:Code->Code->Prop} (h:TL P S H p l l'):∀d x r s k,l≠ .call d x r s::k/\l'≠ .call d x r s::k:=by
 intro d x r s k;cases h with
 |nil=>exact⟨by simp,by simp⟩
 |cons hi ht=>cases hi<;>exact⟨by simp,by simp⟩
theorem lT (h:∀d x r s k,f.todo≠ .call d x r s::k):f.catches P=false:=by
 unfold Frame.catches;split
 .rename_i hh;exact absurd hh (h _ _ _ _ _)
 .rfl
theorem cU.unwind (hc:Closed P F S H) (hw:WR P S (KS P S) N p w w') {top:List Frame} (hf:FL P S H p (f::top) (f'::cY)) (main main':Bool) (hb:MD P S main' aL)
 (hm:jP m w w') (hd:(gw (Go.unwind (ag P F) main' f' (cY++aL) none w')).drawn<=w'.drawn+m):
 cU P S H N p w w' b bs aL (Go.unwind P main f (top++b::bs) none w) (Go.unwind (ag P F) main' f' (cY++aL) none w'):=by
 have fY:=hf.head;have Ep:=fY.defers;generalize h1:f.defers=t at Ep;generalize h2:f'.defers=t' at Ep;unfold Go.unwind at hd⊢;rw[h1,h2];rw[h2]at hd;cases Ep with
 | @cons r r' l l' hr hl=>
   simp only[iY]at hd⊢
   refine cU.run (SR.takeDeferred hr) hw hm (ev:=fun r es=>seen P f.fn es) (MB:=fun r es=>seen (ag P F) f'.fn es) (fun r es e he=>mem_seen he)
    (k:=fun r=>match r with|.ok calls w=>.go {frame:={f with defers:=calls++l},callers:=top++b::bs,status:=.running,dying:=none} w|.halt _ w=>.ended (.stuck "the deferred calls of a range-over-func loop have been taken" (f.pos P)) w)
    (k':=fun r=>match r with|.ok calls w=>.go {frame:={f' with defers:=calls++l'},callers:=cY++aL,status:=.running,dying:=none} w|.halt _ w=>.ended (.stuck "the deferred calls of a range-over-func loop have been taken" (f'.pos (ag P F))) w)
    hd ?_ ?_ ?_ ?_
   .intro r;cases r<;>exact Nat.le_refl _
   .intro x w1 _;exact⟨_,_,_,rfl⟩
   .intro c n w1 fG y y' pM hy _ _;obtain⟨rfl,rfl⟩:=hy;have hle:=eA p w.heap.size w'.heap.size c;exact cU.go pM.rel ((hf.mono hle).top ((fY.mono hle).mk' (fY.todo.mono hle) (hl.mono hle) (.inr (fY.nd.resolve_left fun x=>by rw[h1]at x;cases x.1))) ⟨rfl,rfl⟩)
   .intro c n w1 fG v v' pM hv;exact cU.ended ..
 |nil=>
  simp only at hd⊢;have lS:=fY.mode;generalize g1:f.mode=o at lS;generalize g2:f'.mode=o' at lS;rw[g2]at hd;cases lS with
  |run=>exact cU.ended ..
  | @panicking l l' hl=>
    simp only;have n1:=lT (P:=P) (f:=f) fun d x r s k=>(mN fY.todo d x r s k).1;have n2:=lT (P:=ag P F) (f:=f') fun d x r s k=>(mN fY.todo d x r s k).2;simp only[n1,n2,Bool.false_eq_true,if_false];cases hf with
    |one h r=>exact cU.raised hl ..
    |cons h t=>
     cases t with
     |one h r=>exact cU.go hw (.one (h.raise hl) ⟨(iq _ _).1.trans r.1,by rw[(iq _ _).2];exact r.2⟩)
     |cons h t=>exact cU.go hw (.cons (h.raise hl) t)
  |returning=>
   simp only at hd⊢;rw[<-fY.fn]at hd⊢;rcases hc.body f.fn fY.K9 with⟨e1,e2⟩|⟨fn,j8,_,_,e1,e2,_,_,_,_,_,_,e3⟩
   .rw[e1,e2];exact cU.doReturn hw hf main main' hb (fY.tmps.getD 0 VR.undef)
   .rw[e1,e2];rw[e2]at hd;simp only[iY]at hd⊢
    refine cU.run (SR.results e3 fY.tmps) hw hm (ev:=fun r es=>seen P f.fn es) (MB:=fun r es=>seen (ag P F) f.fn es) (fun r es e he=>mem_seen he)
     (k:=fun r=>match r with|.ok v w=>Go.doReturn P main f (top++b::bs) none v w|.halt (.stuck s) w=>.ended (.stuck s (f.pos P)) w|.halt _ w=>.ended (.stuck "return: the result variables cannot be read" (f.pos P)) w)
     (k':=fun r=>match r with|.ok v w=>Go.doReturn (ag P F) main' f' (cY++aL) none v w|.halt (.stuck s) w=>.ended (.stuck s (f'.pos (ag P F))) w|.halt _ w=>.ended (.stuck "return: the result variables cannot be read" (f'.pos (ag P F))) w)
     hd ?_ ?_ ?_ ?_
    .intro r;cases r with
     |ok v w=>simp only;rw[kl _ _ _ fY.jO];exact Nat.le_refl _
     |halt x=>cases x<;>exact Nat.le_refl _
    .intro x w1 hx;cases x<;>exact⟨_,_,_,rfl⟩
    .intro c n w1 fG x y pM hv _ _;exact cU.doReturn pM.rel (hf.mono (eA _ _ _ _)) main main' hb hv
    .intro c n w1 fG v v' pM hv;exact cU.ended ..
theorem cU.step (hc:Closed P F S H) (hw:WR P S (KS P S) N p w w') (hg:gU P S p) {top:List Frame} (hf:FL P S H p (f::top) (f'::cY)) (U7:∀c c' k k',f.mode=.run->f.todo=.code c::k->f'.todo=.code c'::k'->¬H f.fn c c') (im:¬nX S f') (main main':Bool) (hb:MD P S main' aL)
 (hm:jP m w w') (hd:(gw (stepG (ag P F) main' {frame:=f',callers:=cY++aL,status:=.running,dying:=none} w')).drawn<=w'.drawn+m):
 cU P S H N p w w' b bs aL (stepG P main {frame:=f,callers:=top++b::bs,status:=.running,dying:=none} w)
  (stepG (ag P F) main' {frame:=f',callers:=cY++aL,status:=.running,dying:=none} w'):=by
 have lS:=hf.head.mode
 have aP:∀(P:Program) (main:Bool) (f:Frame) (cs:List Frame) (w:World),f.mode=.run->stepG P main {frame:=f,callers:=cs,status:=.running,dying:=none} w=stepG.exec P main true f cs none w:=by
  intro P main f cs w h;unfold stepG;simp only[h]
 have U9:∀(P:Program) (main:Bool) (f:Frame) (cs:List Frame) (w:World),f.mode≠ .run->stepG P main {frame:=f,callers:=cs,status:=.running,dying:=none} w=Go.unwind P main f cs none w:=by
  intro P main f cs w h;unfold stepG;simp only
 by_cases h:f.mode=.run
 .have h':f'.mode=.run:=by
   rw[h]at lS;generalize f'.mode=o at lS;cases lS;rfl
  rw[aP _ _ _ _ _ h']at hd;rw[aP _ _ _ _ _ h,aP _ _ _ _ _ h'];exact cU.exec hc hw hg hf (fun c c' k k'=>U7 c c' k k' h) (fun _=>im) h' main main' hb hm hd
 .have h':f'.mode≠ .run:=by
   intro e;rw[e]at lS;generalize hx:f.mode=o at lS;cases lS;exact h hx
  rw[U9 _ _ _ _ _ h']at hd;rw[U9 _ _ _ _ _ h,U9 _ _ _ _ _ h'];exact cU.unwind hc hw hf main main' hb hm hd
end
def new (w w1:World):Nat->Prop:=fun r=>w.heap.size<=r/\r<w1.heap.size
def aC (kn:Nat->Prop) (w w1:World):Nat->Prop:=fun r=>kn r\/new w w1 r
structure Env (kn:Nat->Prop) (w w2:World):Prop where
 size:w.heap.size<=w2.heap.size
 same:∀r,kn r->w2.heap[r]?=w.heap[r]?
 os:w2.os=w.os
 out:w2.output=w.output
theorem Env.refl (kn:Nat->Prop) (w:World):Env kn w w:=⟨Nat.le_refl _,fun _ _=>rfl,rfl,rfl⟩
theorem Env.trans {w:World} (h:Env kn w w1) (k:Env kn w1 w2):Env kn w w2:=
 ⟨Nat.le_trans h.1 k.1,fun r hr=>(k.2 r hr).trans (h.2 r hr),k.os.trans h.os,k.out.trans h.out⟩
def Bo (kn own:Nat->Prop) (e:Event):Prop:=
 e=noRoomEvent\/(e.sync=false/\∃r,kn r/\((∃a:Addr,e.loc=.cell a/\a.block=r)\/e.loc=.obj r)/\(e.write=true->own r))
structure Fair (kn own:Nat->Prop) (w w1:World) (es:Array Event):Prop where
 size:w.heap.size<=w1.heap.size
 others:∀r,r<w.heap.size->¬own r->w1.heap[r]?=w.heap[r]?
 os:w1.os=w.os
 out:w1.output=w.output
 tape:w1.tape=w.tape
 drawn:w.drawn<=w1.drawn
 ev:∀e∈es,Bo (aC kn w w1) (aC own w w1) e
abbrev gN (f:Frame) (cs:List Frame):Goroutine:={frame:=f,callers:=cs,status:=.running,dying:=none}
abbrev mO:=(Nat->Prop)->(Nat->Prop)->Value->World->Prop
abbrev jY:=(Nat->Prop)->(Nat->Prop)->Frame->World->Prop
abbrev dp:=(Nat->Prop)->(Nat->Prop)->Frame->World->Value->World->(Nat->Prop)->(Nat->Prop)->Prop
abbrev O5:=(Nat->Prop)->(Nat->Prop)->Frame->List Frame->World->Prop
def Body (Q:Program) (main:Bool) (base:List Frame) (Fin:mO) (HA:jY) (HP:dp) (I:O5):O5:=fun kn own f top w=>
 ∀w2,Env kn w w2->
  (∃w3 es f2 mP,stepG Q main (gN f (top++base)) w2=.go (gN f2 (mP++base)) w3 es/\Fair kn own w2 w3 es/\I (aC kn w2 w3) (aC own w2 w3) f2 mP w3)\/
  (∃w3 es v b bs,base=b::bs/\stepG Q main (gN f (top++base)) w2=.go (gN (b.finish v) bs) w3 es/\Fair kn own w2 w3 es/\Fin (aC kn w2 w3) (aC own w2 w3) v w3)\/
  (∃w3 es v,base=[]/\stepG Q main (gN f (top++base)) w2=.ended (.done v) w3 es/\Fair kn own w2 w3 es/\Fin (aC kn w2 w3) (aC own w2 w3) v w3)\/
  (HA kn own f w2/\∃c rest,top=c::rest/\∀v w3 dW be,HP kn own f w2 v w3 dW be->I dW be (c.finish v) rest w3)
def CT (Q:Program) (main:Bool) (base:List Frame) (Fin:mO) (HA:jY) (HP:dp):O5:=fun kn own f top w=>
 ∀I:O5,(∀kn own f top w,Body Q main base Fin HA HP I kn own f top w->I kn own f top w)->I kn own f top w
section
variable {Q:Program} {main:Bool} {base:List Frame} {Fin:mO} {HA:jY} {HP:dp}
theorem Body.mono {I J:O5} (h:∀kn own f top w,I kn own f top w->J kn own f top w) {top:List Frame} {w:World} (x:Body Q main base Fin HA HP I kn own f top w):Body Q main base Fin HA HP J kn own f top w:=by
 intro w2 he;rcases x w2 he with⟨w3,es,f2,mP,h1,h2,h3⟩|x|x|⟨h1,c,rest,hc,h2⟩
 .exact .inl ⟨w3,es,f2,mP,h1,h2,h _ _ _ _ _ h3⟩
 .exact .inr (.inl x)
 .exact .inr (.inr (.inl x))
 .exact .inr (.inr (.inr ⟨h1,c,rest,hc,fun v w3 dW be hp=>h _ _ _ _ _ (h2 v w3 dW be hp)⟩))
theorem CT.mk {kn own:Nat->Prop} {f:Frame} {top:List Frame} {w:World} (h:Body Q main base Fin HA HP (CT Q main base Fin HA HP) kn own f top w):CT Q main base Fin HA HP kn own f top w:=
 fun I hI=>hI _ _ _ _ _ (h.mono fun _ _ _ _ _ x=>x I hI)
theorem CT.ind {I:O5} (hI:∀kn own f top w,Body Q main base Fin HA HP (fun kn own f top w=>I kn own f top w/\CT Q main base Fin HA HP kn own f top w) kn own f top w->I kn own f top w)
 {top:List Frame} {w:World} (h:CT Q main base Fin HA HP kn own f top w):I kn own f top w:=
 (h (fun kn own f top w=>I kn own f top w/\CT Q main base Fin HA HP kn own f top w) fun _ _ _ _ _ x=>⟨hI _ _ _ _ _ x,CT.mk (x.mono fun _ _ _ _ _ y=>y.2)⟩).1
end
def iZ (p:Pi):Nat->Prop:=fun r'=>∃r,p r r'
def bJ (N:Nat) (p:Pi):Nat->Prop:=fun r'=>∃r,p r r'/\N<=r
theorem I3 (p:Pi) (L C c:Nat):iZ (ext p L C c)=fun r'=>iZ p r'\/(C<=r'/\r'<C+c):=by
 funext r';apply propext;constructor
 .rintro⟨r,h|⟨k,hk,h1,h2⟩⟩
  .exact .inl ⟨r,h⟩
  .exact .inr ⟨by omega,by omega⟩
 .rintro(⟨r,h⟩|⟨h1,h2⟩)
  .exact⟨r,.inl h⟩
  .exact⟨L+(r'-C),.inr ⟨r'-C,by omega,rfl,by omega⟩⟩
theorem CP {N:Nat} (p:Pi) {L:Nat} (hN:N<=L) (C c:Nat):bJ N (ext p L C c)=fun r'=>bJ N p r'\/(C<=r'/\r'<C+c):=by
 funext r';apply propext;constructor
 .rintro⟨r,h|⟨k,hk,h1,h2⟩,hr⟩
  .exact .inl ⟨r,h,hr⟩
  .exact .inr ⟨by omega,by omega⟩
 .rintro(⟨r,h,hr⟩|⟨h1,h2⟩)
  .exact⟨r,.inl h,hr⟩
  .exact⟨L+(r'-C),.inr ⟨r'-C,by omega,rfl,by omega⟩,by omega⟩
section
variable {P:Program} {S:Nat->Bool} {N:Nat} {p:Pi}
theorem WR.env {w:World} (h:WR P S (KS P S) N p lw w) (he:Env (iZ p) w w2):WR P S (KS P S) N p lw w2:=
 ⟨h.inj,fun r r' hr=>by
   obtain⟨o,o',h1,h2,h3⟩:=h.blk r r' hr;exact⟨o,o',h1,(he.2 r' ⟨r,hr⟩).trans h2,h3⟩,h.low,h.fix,h.fg,Nat.le_trans h.iU he.1,h.str,h.sB⟩
theorem WR.tape {w:World} (h:WR P S (KS P S) N p lw w) (T:Nat->Question->Nat) (d:Nat):WR P S (KS P S) N p {lw with tape:=T,drawn:=d} w:=
 ⟨h.inj,h.blk,h.low,h.fix,h.fg,h.iU,h.str,h.sB⟩
theorem bQ.fair {w TA:World} (hw:WR P S (KS P S) N p lw w) (h:bQ P S (KS P S) N p lw w c n TA w1) (he:∀e∈es,Ib N (ext p lw.heap.size w.heap.size c) e):
 Fair (iZ p) (bJ N p) w w1 es/\iZ (ext p lw.heap.size w.heap.size c)=aC (iZ p) w w1/\bJ N (ext p lw.heap.size w.heap.size c)=aC (bJ N p) w w1:=by
 have e1:iZ (ext p lw.heap.size w.heap.size c)=aC (iZ p) w w1:=by
  rw[I3];unfold aC new;rw[h.ka]
 have e2:bJ N (ext p lw.heap.size w.heap.size c)=aC (bJ N p) w w1:=by
  rw[CP p hw.low];unfold aC new;rw[h.ka]
 refine⟨⟨by rw[h.ka];omega,fun r hr hn=>h.others r hr fun s hs=>?_,h.UR,h.Mp,h.Bg,by rw[h.kc];omega,fun e hx=>?_⟩,e1,e2⟩
 .rcases Nat.lt_or_ge s N with az|uu
  .exact az
  .exact absurd ⟨s,hs,uu⟩ hn
 .rw[<-e1,<-e2];rcases he e hx with h0|⟨h1,r,r',h2,h3,h4⟩
  .exact .inl h0
  .exact .inr ⟨h1,r',⟨r,h2⟩,h3,fun wK=>⟨r,h2,h4 wK⟩⟩
end
def Base (P:Program):Frame:={fn:=P.funcs.size,tmps:=#[],todo:=[.extern "" #[],.code (.refuse "")],defers:=[⟨.nil,#[]⟩],mode:=.run,kind:=.normal}
theorem dh (P:Program) (v:Value):(Base P).finish v={fn:=P.funcs.size,tmps:=#[v],todo:=[.code (.refuse "")],defers:=[⟨.nil,#[]⟩],mode:=.run,kind:=.normal}:=rfl
theorem fI (P:Program) (v:Value) (w:World):∃o w1,step P (lone ((Base P).finish v) [] w)=.ended o w1:=⟨_,_,step_lone_ended (by rw[dh];rfl)⟩
theorem eK (P:Program) (ch:List PanicEntry) (w:World):∃o w1,step P (lone ((Base P).raise ch) [] w)=.ended o w1:=⟨_,_,step_lone_ended (by rfl)⟩
theorem eE {cs ds:List Frame} {w v:World} (h:lone f cs w=lone g ds v):f=g/\cs=ds/\w=v:=by
 have h1:(lone f cs w).gs[0]! =(lone g ds v).gs[0]!:=by rw[h]
 have h2:(lone f cs w).world=(lone g ds v).world:=by rw[h]
 have h3:(gN f cs)=(gN g ds):=h1;simp only[Goroutine.mk.injEq]at h3;exact⟨h3.1,h3.2.1,h2⟩
def Alike (w w':World):Prop:=∀r:Nat,w'.heap[r]?=w.heap[r]? \/((∃d,w.heap[r]?=some (Obj.deferred d))/\∃d,w'.heap[r]?=some (Obj.deferred d))
theorem Alike.refl (w:World):Alike w w:=fun _=>.inl rfl
theorem Alike.trans {a b c:World} (h:Alike a b) (k:Alike b c):Alike a c:=fun r=>by
 rcases k r with k|⟨⟨d,k1⟩,k2⟩
 .rcases h r with h|⟨h1,d,h2⟩
  .exact .inl (k.trans h)
  .exact .inr ⟨h1,d,k.trans h2⟩
 .rcases h r with h|⟨h1,_⟩
  .exact .inr ⟨⟨d,h▸k1⟩,k2⟩
  .exact .inr ⟨h1,k2⟩
theorem qK (P:Program) (n:Nat) (m m1:Machine) (h:runN P n m=.next m1):runN P (n+1) m=step P m1:=by
 rw[runN_add,h];simp only[runN];split<;>simp_all
section
variable {P:Program} {S:Nat->Bool} {H:FuncId->Code->Code->Prop} {N:Nat} {p:Pi}
def FD (P:Program) (S:Nat->Bool) (H:FuncId->Code->Code->Prop) (p:Pi) (g:Frame):Prop:=(∃d,DL p g.defers d)/\∀d x r s k,g.todo≠ .call d x r s::k
theorem FL.fd {l l':List Frame} (h:FL P S H p l l'):∀g∈l,FD P S H p g:=by
 induction h with
 |one h r=>intro g hg;obtain rfl:g=_:=by simpa using hg
           exact⟨⟨_,h.defers⟩,fun d x r s k=>(mN h.todo d x r s k).1⟩
 |cons h t ih=>
  intro g hg;rcases List.mem_cons.1 hg with rfl|hg
  .exact⟨⟨_,h.defers⟩,fun d x r s k=>(mN h.todo d x r s k).1⟩
  .exact ih g hg
theorem uD (g:Frame) (ch:List PanicEntry):(g.raise ch).defers=g.defers/\(g.raise ch).todo=g.todo:=by
 unfold Frame.raise;split<;>exact⟨rfl,rfl⟩
theorem raise_mode (g:Frame) {ch:List PanicEntry} {e:PanicEntry} (h:ch.head?=some e):∃Bp,(g.raise ch).mode=.panicking Bp/\Bp.head?=some e:=by
 unfold Frame.raise;split
 .refine⟨_,rfl,?_⟩;cases ch with
  |nil=>cases h
  |cons x l=>exact h
 .exact⟨_,rfl,h⟩
theorem qL:∀(n:Nat) (h:Frame) (hs:List Frame) (v w2:World) (ch:List PanicEntry) (e0:PanicEntry),h.mode=.panicking ch->ch.head?=some e0->FD P S H p h->(∀g∈hs,FD P S H p g)->
 WR P S (KS P S) N p v w2->∀(fr:Frame) (w1:World),runN P n (lone h (hs++[Base P]) v)=.next (lone fr [Base P] w1)->
 ((∃x,fr.leaving P w1 (.returned x))\/∃Bp,fr.leaving P w1 (.panicked Bp))->∃Bp,fr.mode=.panicking Bp/\Bp.head?=some e0/\Alike v w1:=by
 intro n;induction n with
 |zero=>
  intro h hs v w2 ch e0 hm he hd Ep hw fr w1 hr hl;simp only[runN,Stepped.next.injEq]at hr;obtain⟨rfl,_,rfl⟩:=eE hr;exact⟨ch,hm,he,Alike.refl _⟩
 |succ n ih=>
  intro h hs v w2 ch e0 hm he hd Ep hw fr w1 hr hl;obtain⟨⟨d',Va⟩,CQ⟩:=hd
  have bC:stepG P true {frame:=h,callers:=hs++[Base P],status:=.running,dying:=none} v=Go.unwind P true h (hs++[Base P]) none v:=by
   unfold stepG;simp only[hm]
  generalize hdd:h.defers=ds at Va;cases Va with
  | @cons r r' l l' O6 TB=>
    obtain⟨o,o',ho,Bq,hc⟩:=hw.blk r r' O6
    have qM:(∃x,(Instr.takeDeferred r).run P v=.halt x v)->False:=by
     rintro⟨x,hx⟩
     have:step P (lone h (hs++[Base P]) v)=.ended _ _:=step_lone_ended (by
      rw[bC];unfold Go.unwind;simp only[hdd,Sem.runT_eq,hx,GStep.bare_after];rfl)
     simp only[runN,this]at hr;cases hr
    have EO:(∀d,o≠ .deferred (some d))->False:=fun hn=>qM (by
     simp only[Instr.takeDeferred,getObj,bind,Sem.bind,Sem.run,ho];cases o<;>first|exact⟨_,rfl⟩|(rename_i d;cases d<;>first|exact⟨_,rfl⟩|exact absurd rfl (hn _)))
    rcases hc with⟨_,c,c',el,fz,rfl,rfl,_⟩|⟨hN,pF⟩
    .exact(EO fun d h=>by cases h).elim
    .cases pF with
     |dA=>
      have aP:(Instr.takeDeferred r).run P v=.ok [] {v with heap:=v.heap.setIfInBounds r (.deferred none)}:=by
       simp[Instr.takeDeferred,getObj,setObj,bind,Sem.bind,Sem.run,ho,pure]
      have bF:step P (lone h (hs++[Base P]) v)=.next (lone {h with defers:=[]++l} (hs++[Base P]) {v with heap:=v.heap.setIfInBounds r (.deferred none)}):=step_lone_go (by
       rw[bC];unfold Go.unwind;simp only[hdd,Sem.runT_eq,aP,GStep.bare_after];rfl)
      simp only[runN,bF]at hr;obtain⟨Bp,k1,k2,k3⟩:=ih {h with defers:=[]++l} hs _ {w2 with heap:=w2.heap.setIfInBounds r' (.deferred none)} ch e0 hm he ⟨⟨_,TB⟩,CQ⟩ Ep (hw.setObj O6 .dy hN) fr w1 hr hl;refine⟨Bp,k1,k2,Alike.trans (fun s=>?_) k3⟩;by_cases hs:r=s
      .subst hs;have az:=(Array.getElem?_eq_some_iff.1 ho).1;exact .inr ⟨⟨_,ho⟩,none,by simp[az]⟩
      .exact .inl (by simp[hs])
     |_=>exact(EO fun d h=>by cases h).elim
  |nil=>
   have Qc:h.catches P=false:=lT CQ;cases hs with
   |nil=>
    exfalso
    have bF:step P (lone h ([]++[Base P]) v)=.next (lone ((Base P).raise ch) [] v):=step_lone_go (by
     rw[bC];unfold Go.unwind;simp only[hdd,hm,Qc,Bool.false_eq_true,if_false];rfl)
    simp only[runN,bF]at hr;obtain⟨o,w5,TC⟩:=eK P ch v;cases n with
    |zero=>
     simp only[runN,Stepped.next.injEq]at hr;have:=(eE hr).2.1;simp at this
    |succ n=>simp only[runN,TC]at hr;cases hr
   |cons g2 v8=>
    have bF:step P (lone h (g2::v8++[Base P]) v)=.next (lone (g2.raise ch) (v8++[Base P]) v):=step_lone_go (by
     rw[bC];unfold Go.unwind;simp only[hdd,hm,Qc,Bool.false_eq_true,if_false];rfl)
    simp only[runN,bF]at hr;obtain⟨ch3,m1,m2⟩:=raise_mode g2 he;obtain⟨U8,ht2⟩:=Ep g2 (by simp);have Qd:=uD g2 ch;exact ih (g2.raise ch) v8 v w2 ch3 e0 m1 m2 ⟨by rw[Qd.1];exact U8,by rw[Qd.2];exact ht2⟩ (fun g hg=>Ep g (by simp[hg])) hw fr w1 hr hl
end
def TD (P:Program) (lf:Frame) (qN:List Frame) (lw:World) (R:Value->World->Prop) (C:Value->World->Prop):Prop:=
 ∀T,∃n fr w1,runN P n (lone lf (qN++[Base P]) {lw with tape:=T})=.next (lone fr [Base P] w1)/\
  ((∃v,fr.leaving P w1 (.returned v)/\R v w1)\/(∃e ch,fr.leaving P w1 (.panicked (e::ch))/\C e.v w1/\∀(S:Nat->Bool) (q:Pi) v',S (P.funcs.size+P.globals.size)=false->¬VR S q e.v v'))
def qO (P:Program) (S:Nat->Bool) (N:Nat) (p:Pi) (R:Value->World->Prop) (kn own:Nat->Prop) (v':Value) (w':World):Prop:=
 ∃q v w1,R v w1/\VR S q v v'/\WR P S (KS P S) N q w1 w'/\Le p q/\kn=iZ q/\own=bJ N q
def fJ (m:Nat->Nat) (d:Nat):Nat->Nat
 |0=>d
 |k+1=>fJ m d k+m k
theorem nY (m:Nat->Nat) (d:Nat) {k j:Nat} (h:k<=j):fJ m d k<=fJ m d j:=by
 induction h with
 |refl=>exact Nat.le_refl _
 |step _ ih=>simp only[fJ];omega
open Classical in
theorem splice [Inhabited α] (m:Nat->Nat) (a:Nat->Nat->α) (d:Nat):∃T:Nat->α,∀k j,j<m k->T (fJ m d k+j)=a k j:=by
 refine⟨fun i=>if h:∃k,fJ m d k<=i/\i<fJ m d (k+1)then a h.choose (i-fJ m d h.choose)else default,fun k j hj=>?_⟩;have h:∃k',fJ m d k'<=fJ m d k+j/\fJ m d k+j<fJ m d (k'+1):=⟨k,by omega,by simp only[fJ];omega⟩
 simp only[dif_pos h];obtain⟨c,hc,eZ⟩:∃c,(fJ m d c<=fJ m d k+j/\fJ m d k+j<fJ m d (c+1))/\h.choose=c:=⟨h.choose,h.choose_spec,rfl⟩
 rw[eZ]
 have e:c=k:=by
  rcases Nat.lt_trichotomy c k with az|heq|tz
  .have:=nY m d (show c+1<=k by omega);omega
  .exact heq
  .have:=nY m d (show k+1<=c by omega);simp only[fJ]at this;omega
 subst e;congr 1;omega
def Ie (H:FuncId->Code->Code->Prop) (lf f:Frame):Prop:=lf.mode=.run/\f.mode=.run/\∃c c' k k',lf.todo=.code c::k/\f.todo=.code c'::k'/\H f.fn c c'
def EP (H:FuncId->Code->Code->Prop) (f:Frame):Prop:=f.mode=.run/\∃c c' k',f.todo=.code c'::k'/\H f.fn c c'
structure qP (P:Program) (S:Nat->Bool) (H:FuncId->Code->Code->Prop) (N:Nat) (HA:jY) (HP:dp) (C:Value->World->Prop)where
 a0:Question->Nat
 m1:Nat
 TE:Value->World->Nat->Question->Nat
 ln:Nat
 q3:Pi->Nat->Frame->World->Value->World->Pi
 val:Frame->Value
 only:∀fn c c' c0,H fn c c'->CR P S (H fn) c0 c'->H fn c0 c'\/∃w,c0=.refuse w
 marked:S (P.funcs.size+P.globals.size)=false
 bare:∀o,fh S o=false
 zv:∀v w w',Alike w w'->C v w'->C v w
 check:∀p lf f v cs,jX P S H p lf f->Ie H lf f->(∀q,v.tape v.drawn q=a0 q)->∃n g1 v1 e,runN P n (lone lf cs v)=.next (lone g1 cs v1)/\g1.mode=.panicking [e]/\e.v=val lf/\
  FD P S H p g1/\v1.heap=v.heap
 ha:∀p lf f v w2,jX P S H p lf f->Ie H lf f->WR P S (KS P S) N p v w2->C (val lf) v->HA (iZ p) (bJ N p) f w2
 pass:∀p lf f v w2 lc cs u' w3 dW be,jX P S H p lf f->Ie H lf f->WR P S (KS P S) N p v w2->HP (iZ p) (bJ N p) f w2 u' w3 dW be->(∀i,i<m1->∀q,v.tape (v.drawn+i) q=TE u' w3 i q)->
  ∃n u v1,1<=n/\runN P n (lone lf (lc::cs) v)=.next (lone (lc.finish u) cs v1)/\VR S (q3 p v.heap.size f w2 u' w3) u u'/\WR P S (KS P S) N (q3 p v.heap.size f w2 u' w3) v1 w3/\
   Le p (q3 p v.heap.size f w2 u' w3)/\dW=iZ (q3 p v.heap.size f w2 u' w3)/\be=bJ N (q3 p v.heap.size f w2 u' w3)/\v1.tape=v.tape/\v1.drawn=v.drawn+m1/\v1.heap.size=v.heap.size+ln
structure Nd where
 p:Pi
 L:Nat
 f:Frame
 top:List Frame
 w:World
section
variable (Q:Program) (S:Nat->Bool) (H:FuncId->Code->Code->Prop) (N:Nat) (main:Bool) (base:List Frame) (Fin:mO) (HA:jY) (HP:dp)
def Nd.ct (x:Nd):Prop:=CT Q main base Fin HA HP (iZ x.p) (bJ N x.p) x.f x.top x.w
def Nd.step (x:Nd) (w2:World):GStep:=stepG Q main (gN x.f (x.top++base)) w2
def Nd.bad (x:Nd) (w2:World):Prop:=
 Env (iZ x.p) x.w w2/\
 ¬((∃w3 es f2 mP,x.step Q main base w2=.go (gN f2 (mP++base)) w3 es/\Fair (iZ x.p) (bJ N x.p) w2 w3 es/\CT Q main base Fin HA HP (aC (iZ x.p) w2 w3) (aC (bJ N x.p) w2 w3) f2 mP w3)\/
  (∃w3 es v b bs,base=b::bs/\x.step Q main base w2=.go (gN (b.finish v) bs) w3 es/\Fair (iZ x.p) (bJ N x.p) w2 w3 es/\Fin (aC (iZ x.p) w2 w3) (aC (bJ N x.p) w2 w3) v w3)\/
  (∃w3 es v,base=[]/\x.step Q main base w2=.ended (.done v) w3 es/\Fair (iZ x.p) (bJ N x.p) w2 w3 es/\Fin (aC (iZ x.p) w2 w3) (aC (bJ N x.p) w2 w3) v w3)\/
  (HA (iZ x.p) (bJ N x.p) x.f w2/\∃c rest,x.top=c::rest/\∀v w3 dW be,HP (iZ x.p) (bJ N x.p) x.f w2 v w3 dW be->CT Q main base Fin HA HP dW be (c.finish v) rest w3))
theorem Nd.MG (x:Nd) (h:¬x.ct Q N main base Fin HA HP):∃w2,x.bad Q N main base Fin HA HP w2:=by
 refine Classical.byContradiction fun hn=>h (CT.mk fun w2 he=>?_);exact Classical.byContradiction fun hx=>hn ⟨w2,he,hx⟩
def Nd.out (x:Nd) (w2:World) (o:Value×World):Prop:=
 ∃c rest dW be,x.top=c::rest/\HP (iZ x.p) (bJ N x.p) x.f w2 o.1 o.2 dW be/\¬CT Q main base Fin HA HP dW be (c.finish o.1) rest o.2
open Classical in
noncomputable def Nd.pick (x:Nd):World:=if h:∃w2,x.bad Q N main base Fin HA HP w2 then h.choose else x.w
theorem Nd.tA (x:Nd) (h:¬x.ct Q N main base Fin HA HP):x.bad Q N main base Fin HA HP (x.pick Q N main base Fin HA HP):=by
 have:=x.MG Q N main base Fin HA HP h;unfold Nd.pick;rw[dif_pos this];exact this.choose_spec
open Classical in
noncomputable def Nd.eL (x:Nd):Value×World:=
 if h:∃o,x.out Q N main base Fin HA HP (x.pick Q N main base Fin HA HP) o then h.choose else(undef,x.w)
theorem Nd.uE (x:Nd) (h:∃o,x.out Q N main base Fin HA HP (x.pick Q N main base Fin HA HP) o):x.out Q N main base Fin HA HP (x.pick Q N main base Fin HA HP) (x.eL Q N main base Fin HA HP):=by
 unfold Nd.eL;rw[dif_pos h];exact h.choose_spec
end
section
variable {P:Program} (Q:Program) {S:Nat->Bool} {H:FuncId->Code->Code->Prop} {N:Nat} (main:Bool) (base:List Frame) (Fin:mO) {HA:jY} {HP:dp} {C:Value->World->Prop} (hl:qP P S H N HA HP C)
open Classical in
noncomputable def Nd.nx (x:Nd):Nd:=
 if EP H x.f then
  match x.top with
  |c::rest=>⟨hl.q3 x.p x.L x.f (x.pick Q N main base Fin HA HP) (x.eL Q N main base Fin HA HP).1 (x.eL Q N main base Fin HA HP).2,x.L+hl.ln,c.finish (x.eL Q N main base Fin HA HP).1,rest,(x.eL Q N main base Fin HA HP).2⟩
  | []=>x
 else match x.step Q main base (x.pick Q N main base Fin HA HP)with
 |.go g w3 _=>⟨ext x.p x.L (x.pick Q N main base Fin HA HP).heap.size (w3.heap.size-(x.pick Q N main base Fin HA HP).heap.size),x.L+(w3.heap.size-(x.pick Q N main base Fin HA HP).heap.size),
    g.frame,g.callers.take (g.callers.length-base.length),w3⟩
 |_=>x
noncomputable def Nd.path (x:Nd):Nat->Nd
 |0=>x
 |k+1=>(Nd.path x k).nx Q main base Fin hl
open Classical in
noncomputable def Nd.cnt (x:Nd):Nat:=
 if EP H x.f then hl.m1 else(gw (x.step Q main base (x.pick Q N main base Fin HA HP))).drawn-(x.pick Q N main base Fin HA HP).drawn
open Classical in
noncomputable def Nd.piece (x:Nd) (i:Nat):Question->Nat:=
 if EP H x.f then hl.TE (x.eL Q N main base Fin HA HP).1 (x.eL Q N main base Fin HA HP).2 i else(x.pick Q N main base Fin HA HP).tape ((x.pick Q N main base Fin HA HP).drawn+i)
end
instance : Inhabited (Question -> Nat) := ⟨fun _ => 0⟩
def Ends (P:Program) (fr:Frame) (w1:World):Prop:=(∃v,fr.leaving P w1 (.returned v))\/∃ch,fr.leaving P w1 (.panicked ch)
theorem Ends.after {P:Program} (h:Ends P fr w1):∃b,step P (lone fr [Base P] w1)=.next (lone b [] w1)/\∃o w2,step P (lone b [] w1)=.ended o w2:=by
 rcases h with⟨v,h⟩|⟨ch,h⟩
 .exact⟨_,step_leave_returned h,fI P v w1⟩
 .exact⟨_,step_leave_panicked h,eK P ch w1⟩
theorem before {P:Program} {m0:Machine} (h:runN P n m0=.next (lone fr [Base P] w1)) (he:Ends P fr w1) {ν:Nat} {gs:List Frame} {v:World}
 (hv:runN P ν m0=.next (lone g (gs++[Base P]) v)):ν<=n/\runN P (n-ν) (lone g (gs++[Base P]) v)=.next (lone fr [Base P] w1):=by
 obtain⟨b,h1,o,w2,h2⟩:=he.after
 have hle:ν<=n:=by
  rcases Nat.lt_or_ge n ν with az|uu
  .exfalso;obtain⟨j,rfl⟩:∃j,ν=(n+1)+j:=⟨ν-(n+1),by omega⟩
   rw[runN_add,qK P n _ _ h,h1]at hv;cases j with
   |zero=>
    simp only[runN,Stepped.next.injEq]at hv;have:=(eE hv).2.1;simp at this
   |succ j=>simp only[runN,h2]at hv;cases hv
  .exact uu
 refine⟨hle,?_⟩;have:n=ν+(n-ν):=by omega
 rw[this,runN_add,hv]at h;exact h
theorem uF {P:Program} {b:Frame} {v1:World} (h:runN P r σ=.next (lone fr [Base P] w1)) (hs:step P σ=.next (lone b [] v1)) (hb:∃o w2,step P (lone b [] v1)=.ended o w2):r=0/\σ=lone fr [Base P] w1:=by
 obtain⟨o,w2,hb⟩:=hb;cases r with
 |zero=>simp only[runN,Stepped.next.injEq]at h;exact⟨rfl,h⟩
 |succ r=>
  exfalso;simp only[runN,hs]at h;cases r with
  |zero=>
   simp only[runN,Stepped.next.injEq]at h;have:=(eE h).2.1;simp at this
  |succ r=>simp only[runN,hb]at h;cases h
theorem uG {P:Program} {o:Outcome} (h:runN P r σ=.next (lone fr [Base P] w1)) (he:Ends P fr w1) (hs:step P σ=.ended o w2):False:=by
 cases r with
 |zero=>
  simp only[runN,Stepped.next.injEq]at h;obtain⟨b,h1,_⟩:=he.after;rw[h,h1]at hs;cases hs
 |succ r=>simp only[runN,hs]at h;cases h
theorem FL.above {P:Program} {S:Nat->Bool} {H:FuncId->Code->Code->Prop} {p:Pi} (h:FL P S H p (f::t) (f'::t')) {c c':Code} (hh:H f'.fn c c'):∃g g' r r',t=g::r/\t'=g'::r'/\FL P S H p (g::r) (g'::r'):=by
 cases h with
 |one h r=>exact absurd (h.fn▸hh) (r.2 c c')
 |cons h k=>
  cases k with
  |one h r=>exact⟨_,_,_,_,rfl,rfl,.one h r⟩
  |cons h t=>exact⟨_,_,_,_,rfl,rfl,.cons h t⟩
section
variable {P:Program} {F:Array Func} {S:Nat->Bool} {H:FuncId->Code->Code->Prop} {N:Nat} {HA:jY} {HP:dp} {C:Value->World->Prop}
theorem EQ {p:Pi} (hl:qP P S H N HA HP C) (hf:FL P S H p (f::t) (f'::t')) (hh:EP H f'):Ie H f f'\/∃w k,f.todo=.code (.refuse w)::k/\f.mode=.run:=by
 obtain⟨hm,c,c',k',ht,hH⟩:=hh;have lS:=hf.head.mode;rw[hm]at lS;have aP:f.mode=.run:=by generalize f.mode=o at lS;cases lS;rfl
 have CQ:=hf.head.todo;rw[ht]at CQ
 have key:∀x,f.todo=x->TL P S (H f.fn) p x (.code c'::k')->Ie H f f'\/∃w k,f.todo=.code (.refuse w)::k/\f.mode=.run:=by
  intro x hx CQ;cases CQ with
  |cons hi CQ=>
   cases hi with
   | @code c0 _ Lc=>
     rcases hl.only _ c c' c0 hH (hf.head.fn▸Lc)with h|⟨w,h⟩
     .exact .inl ⟨aP,hm,c0,c',_,k',hx,ht,h⟩
     .rw[h]at hx;exact .inr ⟨w,_,hx,aP⟩
 exact key _ rfl CQ
theorem tB {p:Pi} (hc:Closed P F S H) (hg:gU P S p) {lf:Frame} {qN top:List Frame} {w:World} (hw:WR P S (KS P S) N p lw w)
 (hf:FL P S H p (lf::qN) (f::top)) {R:Value->World->Prop} (hl:qP P S H N HA HP C) (CS:TD P lf qN lw R C) (main:Bool) (base:List Frame) (hb:MD P S main base):
 CT (ag P F) main base (qO P S N p R) HA HP (iZ p) (bJ N p) f top w:=by
 refine Classical.byContradiction fun Vb=>?_;let Fin:=qO P S N p R
 let x0:Nd:=⟨p,lw.heap.size,f,top,w⟩
 have qa:¬x0.ct (ag P F) N main base Fin HA HP:=Vb;let X:=fun k=>Nd.path (ag P F) main base Fin hl x0 k
 let pk:=fun k=>(X k).pick (ag P F) N main base Fin HA HP
 let m:=fun k=>(X k).cnt (ag P F) main base Fin hl
 let D:=fun k=>fJ m lw.drawn k
 let start:=fun T:Nat->Question->Nat=>lone lf (qN++[Base P]) {lw with tape:=T}
 have inv:∀k (T:Nat->Question->Nat),(∀j,j<k->∀i,i<m j->T (D j+i)=(X j).piece (ag P F) main base Fin hl i)->∃ν g gs v,k<=ν/\runN P ν (start T)=.next (lone g (gs++[Base P]) v)/\WR P S (KS P S) N (X k).p v (X k).w/\
  FL P S H (X k).p (g::gs) ((X k).f::(X k).top)/\gU P S (X k).p/\v.tape=T/\v.drawn=D k/\v.heap.size=(X k).L/\(¬(X k).ct (ag P F) N main base Fin HA HP)/\Le p (X k).p:=by
  intro k;induction k with
  |zero=>intro T _;exact⟨0,lf,qN,{lw with tape:=T},Nat.le_refl _,rfl,hw.tape T lw.drawn,hf,hg,rfl,rfl,rfl,qa,Le.refl p⟩
  |succ k ih=>
   intro T hT;obtain⟨ν,g,gs,v,e0,e1,e2,e3,e4,e5,e6,e7,e8,e9⟩:=ih T fun j hj i hi=>hT j (by omega) i hi;obtain⟨uH,qM⟩:=(X k).tA (ag P F) N main base Fin HA HP e8;have wd:WR P S (KS P S) N (X k).p v (pk k):=e2.env uH;obtain⟨n,fr,w1,c1,c2⟩:=CS T
   have lC:Ends P fr w1:=by
    rcases c2 with⟨rv,h,_⟩|⟨e,ch,h,_⟩
    .exact .inl ⟨rv,h⟩
    .exact .inr ⟨_,h⟩
   obtain⟨hle,oZ⟩:=before c1 lC e1;by_cases kq:EP H (X k).f
   ·
    rcases EQ hl e3 kq with hh|⟨ws,kk,Vc,Vd⟩
    .have sH:m k=hl.m1:=by show Nd.cnt _ _ _ _ hl (X k)=_;unfold Nd.cnt;rw[if_pos kq]
     obtain⟨lc,fc,wL,rest,Zn,ju,y9⟩:∃lc fc wL rest,gs=lc::wL/\(X k).top=fc::rest/\FL P S H (X k).p (lc::wL) (fc::rest):=by
      obtain⟨_,_,c,c',_,_,_,_,hH⟩:=hh;obtain⟨lc,fc,lr,r,h1,h2,h3⟩:=e3.above hH;exact⟨lc,fc,lr,r,h1,h2,h3⟩
     have qQ:HA (iZ (X k).p) (bJ N (X k).p) (X k).f (pk k):=by
      let T2:Nat->Question->Nat:=fun i=>if i<D k then T i else hl.a0
      have hT2:∀j,j<k->∀i,i<m j->T2 (D j+i)=(X j).piece (ag P F) main base Fin hl i:=fun j hj i hi=>by
       have h1:=nY m lw.drawn (show j+1<=k by omega);simp only[fJ]at h1;have:D j+i<D k:=by show fJ m lw.drawn j+i<fJ m lw.drawn k;omega
       show(if D j+i<D k then T (D j+i)else hl.a0)=_;rw[if_pos this];exact hT j (by omega) i hi
      obtain⟨ν2,g2,Ld,v2,_,f1,f2,f3,_,f5,f6,_,_,_⟩:=ih T2 hT2;have TF:Ie H g2 (X k).f\/_:=EQ hl f3 kq;obtain⟨n2,Zo,w3,d1,d2⟩:=CS T2
      have uI:Ends P Zo w3:=by
       rcases d2 with⟨rv,h,_⟩|⟨e,ch,h,_⟩
       .exact .inl ⟨rv,h⟩
       .exact .inr ⟨_,h⟩
      obtain⟨_,MH⟩:=before d1 uI f1;rcases TF with TF|⟨ws,kk,Vc,Vd⟩
      .obtain⟨nn,g3,v3,e,p1,p2,p3,p4,p5⟩:=hl.check (X k).p g2 (X k).f v2 (Ld++[Base P]) f3.head TF (fun q=>by
        rw[f5,f6];show(if D k<D k then T (D k)else hl.a0) q=hl.a0 q;rw[if_neg (Nat.lt_irrefl _)])
       have hgo:runN P (ν2+nn) (start T2)=.next (lone g3 (Ld++[Base P]) v3):=by rw[runN_add,f1];exact p1
       obtain⟨_,MI⟩:=before d1 uI hgo;have hw3:WR P S (KS P S) N (X k).p v3 (X k).w:=⟨f2.inj,fun r r' h=>by rw[p5];exact f2.blk r r' h,by rw[p5];exact f2.low,f2.fix,by rw[p5];exact f2.fg,f2.iU,f2.str,f2.sB⟩
       have hfd:∀x∈Ld,FD P S H (X k).p x:=fun x hx=>f3.fd x (by simp[hx]);obtain⟨Bp,q1,q2,q3⟩:=qL _ g3 Ld v3 (X k).w [e] e p2 rfl p4 hfd hw3 Zo w3 MI uI;rcases d2 with⟨rv,h,_⟩|⟨e',O4,h,hC,_⟩
       .have:=h.1;rw[q1]at this;cases this
       .have:=h.1;rw[q1]at this;simp only[FrameMode.panicking.injEq]at this;subst this;simp only[List.head?_cons,Option.some.injEq]at q2;subst q2;rw[p3]at hC;have Lf:Alike v2 w3:=fun r=>by have:=q3 r;rw[p5]at this;exact this
        exact hl.ha (X k).p g2 (X k).f v2 (pk k) f3.head TF (f2.env uH) (hl.zv _ _ _ Lf hC)
      .exact(uG MH uI (step_lone_ended (o:=.unsupported _ (g2.pos P)) (w':=v2) (by
        unfold stepG;simp only[Vd];unfold stepG.exec;simp only[Vc];rfl))).elim
     have CU:∃o,(X k).out (ag P F) N main base Fin HA HP (pk k) o:=by
      refine Classical.byContradiction fun im=>qM (.inr (.inr (.inr ⟨qQ,fc,rest,ju,fun v w3 dW be hp=>?_⟩)));exact Classical.byContradiction fun hx=>im ⟨(v,w3),fc,rest,dW,be,ju,hp,hx⟩
     obtain⟨fc2,Qe,dW,be,Lg,hHP,MJ⟩:=(X k).uE (ag P F) N main base Fin HA HP CU;rw[ju]at Lg;obtain⟨rfl,rfl⟩:fc=fc2/\rest=Qe:=by simpa using Lg
     obtain⟨nn,u,v1,p0,p1,p2,p4,p5,p6,p7,p8,p9,p10⟩:=hl.pass (X k).p g (X k).f v (pk k) lc (wL++[Base P]) _ _ dW be e3.head hh wd hHP (fun i hi q=>by
      have:=hT k (by omega) i (by rw[sH];exact hi);rw[e5,e6,this];unfold Nd.piece;rw[if_pos kq])
     have Er:X (k+1)=⟨hl.q3 (X k).p (X k).L (X k).f (pk k) ((X k).eL (ag P F) N main base Fin HA HP).1 ((X k).eL (ag P F) N main base Fin HA HP).2,(X k).L+hl.ln,fc.finish ((X k).eL (ag P F) N main base Fin HA HP).1,rest,((X k).eL (ag P F) N main base Fin HA HP).2⟩:=by
      show(X k).nx (ag P F) main base Fin hl=_;unfold Nd.nx;rw[if_pos kq,ju]
     rw[Er];rw[e7]at p2 p4 p5 p6 p7;refine⟨ν+nn,lc.finish u,wL,v1,by omega,by rw[runN_add,e1,Zn];exact p1,p4,(y9.mono p5).top ((y9.mono p5).head.finish p2) (dn _ _),e4.mono p5,p8.trans e5,?_,by rw[p10,e7],?_,e9.trans p5⟩
     .rw[p9,e6];show D k+hl.m1=fJ m lw.drawn k+m k;rw[sH]
     .unfold Nd.ct;rw[<-p6,<-p7];exact MJ
    .exact(uG oZ lC (step_lone_ended (o:=.unsupported _ (g.pos P)) (w':=v) (by
      unfold stepG;simp only[Vd];unfold stepG.exec;simp only[Vc];rfl))).elim
   ·
    have sH:m k=(gw ((X k).step (ag P F) main base (pk k))).drawn-(pk k).drawn:=by show Nd.cnt _ _ _ _ hl (X k)=_;unfold Nd.cnt;rw[if_neg kq]
    have zx:jP (m k) v (pk k):=fun j hj q=>by
     have:=hT k (by omega) j hj;rw[e5,e6,this];unfold Nd.piece;rw[if_neg kq]
    have hd:(gw (stepG (ag P F) main {frame:=(X k).f,callers:=(X k).top++base,status:=.running,dying:=none} (pk k))).drawn<=(pk k).drawn+m k:=by
     rw[sH];show(gw ((X k).step (ag P F) main base (pk k))).drawn<=(pk k).drawn+((gw ((X k).step (ag P F) main base (pk k))).drawn-(pk k).drawn)
     omega
    have MK:=cU.step (b:=Base P) (bs:=[]) (aL:=base) hc wd e4 e3 (fun c c' k1 k1' hm h1 h2 hH=>kq ⟨by
     have lS:=e3.head.mode;rw[hm]at lS;generalize(X k).f.mode=o at lS;cases lS;rfl,c,c',k1',h2,e3.head.fn▸hH⟩) (fun⟨_,o,_,_,_,_,_,_,h5,_⟩=>by rw[hl.bare o.op]at h5;cases h5) true main hb zx hd
    rcases MK with⟨o,w3,es,hs⟩|⟨q,ch,O4,w3,es,Bn,hs⟩|⟨c,nn,v1,w3,es,cH,hm,Qf,i6⟩
    .exact(uG oZ lC (step_lone_ended (o:=o) (w':=w3) (by rw[hs];rfl))).elim
    .exfalso;have bC:step P (lone g (gs++[Base P]) v)=.next (lone ((Base P).raise ch) [] w3):=step_lone_go (by rw[hs];rfl);obtain⟨_,hσ⟩:=uF oZ bC (eK P ch w3);rw[hσ]at bC;rcases c2 with⟨rv,h,_⟩|⟨e,Bp,h,_,Zp⟩
     .rw[step_leave_returned h]at bC;simp only[Stepped.next.injEq]at bC;have q1:=(eE bC).1;rw[dh]at q1;have:=congrArg (fun f:Frame=>f.mode) q1;simp[Base,Frame.raise]at this
     .rw[step_leave_panicked h]at bC;simp only[Stepped.next.injEq]at bC;have q1:=congrArg (fun f:Frame=>f.mode) (eE bC).1;simp only[Base,Frame.raise,FrameMode.panicking.injEq]at q1;rw[<-q1]at Bn;cases Bn with
      |cons b1 b2 hv _=>exact Zp S q _ hl.marked hv
    .obtain⟨qR,qf,nK⟩:=bQ.fair wd hm Qf;rcases i6 with⟨f2,I4,t2,I5,y9,hs,su⟩|⟨ML,zy,hv,hs,su⟩
     .have bC:step P (lone g (gs++[Base P]) v)=.next (lone f2 (t2++[Base P]) v1):=step_lone_go (by rw[hs];rfl);have lD:=qK P ν _ _ e1;rw[bC]at lD;have v8:(X k).step (ag P F) main base (pk k)=.go (gN I4 (I5++base)) w3 cH:=su
      have Er:X (k+1)=⟨ext (X k).p (X k).L (pk k).heap.size c,(X k).L+c,I4,I5,w3⟩:=by
       show(X k).nx (ag P F) main base Fin hl=_;unfold Nd.nx;rw[if_neg kq];have za:(X k).step (ag P F) main base ((X k).pick (ag P F) N main base Fin HA HP)=.go (gN I4 (I5++base)) w3 cH:=su;rw[za]
       have bP:w3.heap.size-((X k).pick (ag P F) N main base Fin HA HP).heap.size=c:=by
        have h6:w3.heap.size=(pk k).heap.size+c:=hm.ka;show w3.heap.size-(pk k).heap.size=c;rw[h6,Nat.add_sub_cancel_left]
       simp only[bP];congr 1;rw[List.length_append,Nat.add_sub_cancel];exact List.take_left
      rw[Er];have hrel:=hm.rel;rw[e7]at hrel y9 qf nK;have uJ:=eA (X k).p (X k).L (pk k).heap.size c;refine⟨ν+1,f2,t2,v1,by omega,lD,hrel,y9,e4.mono uJ,hm.tape.trans e5,?_,by rw[hm.size,e7],?_,e9.trans uJ⟩
      .rw[hm.drawn,e6]
       have:m k=nn:=by
        rw[sH,v8];have h5:w3.drawn=(pk k).drawn+nn:=hm.kc;show w3.drawn-(pk k).drawn=nn;rw[h5,Nat.add_sub_cancel_left]
       show D k+nn=fJ m lw.drawn k+m k;rw[this]
      .intro zz;refine qM (.inl ⟨w3,cH,I4,I5,v8,qR,?_⟩);unfold Nd.ct at zz;rw[qf,nK]at zz;exact zz
     .exfalso;have bC:step P (lone g (gs++[Base P]) v)=.next (lone ((Base P).finish ML) [] v1):=step_lone_go (by rw[hs];rfl);obtain⟨_,hσ⟩:=uF oZ bC (fI P ML v1);rw[hσ]at bC;rcases c2 with⟨rv,h,hR⟩|⟨e,Bp,h,_⟩
      .rw[step_leave_returned h]at bC;simp only[Stepped.next.injEq]at bC;obtain⟨q1,_,q3⟩:=eE bC;rw[dh,dh]at q1
       have Ve:rv=ML:=by
        have:=congrArg (fun f:Frame=>f.tmps) q1;simpa using this
       subst Ve;subst q3;have qS:Fin (aC (iZ (X k).p) (pk k) w3) (aC (bJ N (X k).p) (pk k) w3) zy w3:=⟨_,rv,w1,hR,hv,hm.rel,e9.trans (eA _ _ _ _),qf.symm,nK.symm⟩
       rcases su with⟨b',uB,i7,su⟩|⟨i7,su⟩
       .exact qM (.inr (.inl ⟨w3,cH,zy,b',uB,i7,su,qR,qS⟩))
       .exact qM (.inr (.inr (.inl ⟨w3,cH,zy,i7,su,qR,qS⟩)))
      .rw[step_leave_panicked h]at bC;simp only[Stepped.next.injEq]at bC;have q1:=(eE bC).1;rw[dh]at q1;have:=congrArg (fun f:Frame=>f.mode) q1;simp[Base,Frame.raise]at this
 obtain⟨T,hT⟩:=splice m (fun k j=>(X k).piece (ag P F) main base Fin hl j) lw.drawn;obtain⟨n,fr,w1,c1,c2⟩:=CS T
 have lC:Ends P fr w1:=by
  rcases c2 with⟨rv,h,_⟩|⟨e,ch,h,_⟩
  .exact .inl ⟨rv,h⟩
  .exact .inr ⟨_,h⟩
 obtain⟨ν,g,gs,v,e0,e1,_⟩:=inv (n+1) T fun j _ i hi=>hT j i hi;obtain⟨hle,_⟩:=before c1 lC e1;omega
end
end Go.au
