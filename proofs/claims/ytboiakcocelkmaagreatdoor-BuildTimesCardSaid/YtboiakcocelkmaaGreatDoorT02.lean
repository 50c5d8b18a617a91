/- A part. Conditions: none. -/
import Derived.Test.YtboiakcocelkmaaGreatDoorT01
set_option linter.all false
namespace Go.aA
variable {c id m n r r':Nat} {cQ xs:Array Value} {dn t t':List Frame} {es:Array Event} {f f' fr g:Frame} {fP lw w1 w2:World} {k l l':List Item} {kn own:Nat->Prop} {s':GStep} {v v':Value} {α:Type} {σ:Machine}
def gw:GStep->World
 |.go _ w _=>w
 |.comm _ _ _ _ w _=>w
 |.spawn _ _ w _=>w
 |.count _ w _=>w
 |.timer _ _ w _=>w
 |.alone _ _ w _=>w
 |.newcoro _ _ _ w _=>w
 |.coroswitch _ _ _ w _=>w
 |.collect _ w _=>w
 |.watch _ w _=>w
 |.ended _ w _=>w
@[simp] theorem jw (es:Array Event) (s:GStep):gw (GStep.after es s)=gw s:=by cases s <;> rfl
theorem EE (P:Program) (s:Sem α) (w:World):w.drawn<=(world (s.run P w)).drawn:=by
 have:=mz P s w #[];rw[Sem.runT_fst]at this;exact this
theorem kN {P:Program} {s:Sem α} {w:World} {r:Result α} (h:s.run P w=r):w.drawn<=(world r).drawn:=h▸EE P s w
theorem ry (P:Program) (fr:Frame) (cs:List Frame) (d:Option Dying) (m:String) (w:World):w.drawn<=(gw (endFatal P fr cs d m w)).drawn:=by
 unfold endFatal;dsimp only;split
 .rename_i h;exact kN h
 .rename_i h;exact kN h
 .rename_i h;exact kN h
theorem yd (P:Program) (fr:Frame) (cs:List Frame) (d:Option Dying) (g:Nat) (w:World):w.drawn<=(gw (early P fr cs d g w)).drawn:=by
 unfold early;dsimp only;repeat' split
 all_goals first
  |exact Nat.le_refl _
  |(have hx:=kN (by assumption:Sem.run P (choose (Question.early g)) w=Result.ok _ _);exact hx)
  |(have hx:=kN (by assumption:Sem.run P (choose (Question.early g)) w=Result.halt _ _);exact hx)
theorem pK (P:Program) (fr:Frame) (cs:List Frame) (d:Option Dying) (s:Sem Next) (w:World):(world (s.runT P w #[]).1).drawn<=(gw (stepG.apply P true fr cs d s w)).drawn:=by
 unfold stepG.apply;simp only[if_true];generalize s.runT P w #[]=x;obtain⟨r,es⟩:=x;simp only[jw];split;all_goals(try exact Nat.le_refl _)
 all_goals(try(split<;>exact Nat.le_refl _))
 all_goals first
  |exact ry ..
  |exact yd ..
  |(split<;>split<;>exact Nat.le_refl _)
section
variable (P:Program) (S:Nat->Bool) (H:FuncId->Code->Code->Prop) (N:Nat)
def di (p:Pi) (w w':World) (b:Frame) (bs:List Frame) (aP:List Frame) (s s':GStep):Prop:=
 (∃o w1 es,s=.ended o w1 es)\/(∃q ch RJ w1 es,CL S q ch RJ/\s=.go {frame:=b.raise ch,callers:=bs,status:=.running,dying:=none} w1 es)\/
 ∃c n w1 fP es cV,cq P S (KS P S) N p w w' c n w1 fP/\(∀e∈cV,Ki N (ext p w.heap.size w'.heap.size c) e)/\
  ((∃f f' top dn,FL P S H (ext p w.heap.size w'.heap.size c) (f::top) (f'::dn)/\
     s=.go {frame:=f,callers:=top++b::bs,status:=.running,dying:=none} w1 es/\
     s'=.go {frame:=f',callers:=dn++aP,status:=.running,dying:=none} fP cV)\/
   (∃v v',VR S (ext p w.heap.size w'.heap.size c) v v'/\
     s=.go {frame:=b.finish v,callers:=bs,status:=.running,dying:=none} w1 es/\
     ((∃b' vH,aP=b'::vH/\s'=.go {frame:=b'.finish v',callers:=vH,status:=.running,dying:=none} fP cV)\/
      (aP=[]/\s'=.ended (.done v') fP cV))))
end
section
variable {P:Program} {F:Array Func} {S:Nat->Bool} {H:FuncId->Code->Code->Prop} {N:Nat} {p:Pi} {w w':World} {b:Frame} {bs:List Frame} {aP:List Frame}
theorem di.ended (o:Outcome) (w1:World) (es:Array Event):di P S H N p w w' b bs aP (.ended o w1 es) s':=.inl ⟨o,w1,es,rfl⟩
theorem di.go (h:WR P S (KS P S) N p w w') {top:List Frame} (hf:FL P S H p (f::top) (f'::dn)):
 di P S H N p w w' b bs aP (.go {frame:=f,callers:=top++b::bs,status:=.running,dying:=none} w) (.go {frame:=f',callers:=dn++aP,status:=.running,dying:=none} w'):=
 .inr (.inr ⟨0,0,w,w',#[],#[],cq.refl h,by simp,.inl ⟨f,f',top,dn,by rw[bE];exact hf,rfl,rfl⟩⟩)
theorem di.ret (h:WR P S (KS P S) N p w w') (hv:VR S p v v') (b':Frame) (vH:List Frame):
 di P S H N p w w' b bs (b'::vH) (.go {frame:=b.finish v,callers:=bs,status:=.running,dying:=none} w) (.go {frame:=b'.finish v',callers:=vH,status:=.running,dying:=none} w'):=
 .inr (.inr ⟨0,0,w,w',#[],#[],cq.refl h,by simp,.inr ⟨v,v',by rw[bE];exact hv,rfl,.inl ⟨b',vH,rfl,rfl⟩⟩⟩)
theorem di.Lf (h:WR P S (KS P S) N p w w') (hv:VR S p v v'):
 di P S H N p w w' b bs [] (.go {frame:=b.finish v,callers:=bs,status:=.running,dying:=none} w) (.ended (.done v') w'):=
 .inr (.inr ⟨0,0,w,w',#[],#[],cq.refl h,by simp,.inr ⟨v,v',by rw[bE];exact hv,rfl,.inr ⟨rfl,rfl⟩⟩⟩)
theorem di.raised {q:Pi} {v v':List PanicEntry} (h:CL S q v v') (w1:World) (es:Array Event):
 di P S H N p w w' b bs aP (.go {frame:=b.raise v,callers:=bs,status:=.running,dying:=none} w1 es) s':=.inr (.inl ⟨q,v,v',w1,es,h,rfl⟩)
theorem di.trans (hm:cq P S (KS P S) N p w w' c n w1 fP) {cV:Array Event} (he:∀e∈cV,Ki N (ext p w.heap.size w'.heap.size c) e) {s:GStep}
 (h:di P S H N (ext p w.heap.size w'.heap.size c) w1 fP b bs aP s s'):di P S H N p w w' b bs aP (s.after es) (s'.after cV):=by
 rcases h with⟨o,w2,XG,rfl⟩|⟨q,ch,RJ,w2,XG,Di,rfl⟩|⟨c2,n2,w2,Ew,fs,XV,k1,k2,k3⟩
 .exact .inl ⟨o,w2,_,rfl⟩
 .exact .inr (.inl ⟨q,ch,RJ,w2,_,Di,rfl⟩)
 .rw[hm.size,hm.kG,m9]at k2 k3;refine .inr (.inr ⟨c+c2,n+n2,w2,Ew,es++fs,cV++XV,hm.trans k1,fun x hx=>?_,?_⟩)
  .rcases Array.mem_append.1 hx with hx|hx
   .refine(he x hx).mono ?_;rw[<-m9];exact eG _ _ _ _
   .exact k2 x hx
  .rcases k3 with⟨f,f',top,dn,x1,rfl,rfl⟩|⟨v,v',x1,rfl,⟨b',vH,x2,rfl⟩|⟨x2,rfl⟩⟩
   .exact .inl ⟨f,f',top,dn,x1,rfl,rfl⟩
   .exact .inr ⟨v,v',x1,rfl,.inl ⟨b',vH,x2,rfl⟩⟩
   .exact .inr ⟨v,v',x1,rfl,.inr ⟨x2,rfl⟩⟩
def kh (m:Nat) (w w':World):Prop:=∀j,j<m->∀q,w.tape (w.drawn+j) q=w'.tape (w'.drawn+j) q
theorem kh.SV (h:kh m w w') (hm:cq P S (KS P S) N p w w' c n w1 fP):kh (m-n) w1 fP:=by
 intro j hj q;have:=h (n+j) (by omega) q;rw[hm.tape,hm.Dc,hm.drawn,hm.kH,Nat.add_assoc,Nat.add_assoc];exact this
theorem di.run {β:Type} {Q:Pi->α->β->Prop} {s:Sem α} {s':Sem β} (h:SR P F S (KS P S) N Q s s' p) (hw:WR P S (KS P S) N p w w') (hm:kh m w w')
 {ev:Result α->Array Event->Array Event} {OS:Result β->Array Event->Array Event} (ba:∀r es e,e∈OS r es->e∈es)
 {k:Result α->GStep} {k':Result β->GStep} (hd:(gw (k' (s'.runT (ae P F) w' #[]).1)).drawn<=w'.drawn+m) (hk:∀r,(world r).drawn<=(gw (k' r)).drawn)
 (SW:∀x w1,dead x->∃o w2 es,k (.halt x w1)=.ended o w2 es)
 (jq:∀c n w1 fP x y,cq P S (KS P S) N p w w' c n w1 fP->Q (ext p w.heap.size w'.heap.size c) x y->kh (m-n) w1 fP->(gw (k' (.ok y fP))).drawn<=fP.drawn+(m-n)->
   di P S H N (ext p w.heap.size w'.heap.size c) w1 fP b bs aP (k (.ok x w1)) (k' (.ok y fP)))
 (OT:∀c n w1 fP v v',cq P S (KS P S) N p w w' c n w1 fP->VR S (ext p w.heap.size w'.heap.size c) v v'->
   di P S H N (ext p w.heap.size w'.heap.size c) w1 fP b bs aP (k (.halt (.panic v) w1)) (k' (.halt (.panic v') fP))):
 di P S H N p w w' b bs aP (GStep.after (ev (s.runT P w #[]).1 (s.runT P w #[]).2) (k (s.runT P w #[]).1)) (GStep.after (OS (s'.runT (ae P F) w' #[]).1 (s'.runT (ae P F) w' #[]).2) (k' (s'.runT (ae P F) w' #[]).1)):=by
 have ho:=SR.sound h w w' #[] #[] m hw hm (Nat.le_trans (hk _) hd);rcases ho with⟨x,w1,es1,e,hx⟩|⟨c,n,w1,fP,es1,fs,k1,k2,⟨x,y,e,e',hq⟩|⟨v,v',e,e',hv⟩⟩
 .rw[e];obtain⟨o,w2,es,e2⟩:=SW x w1 hx;simp only[e2];exact .inl ⟨o,w2,_,rfl⟩
 .rw[e']at hd;simp only at hd;have hwd:(world (.ok y fP:Result β)).drawn<=w'.drawn+m:=Nat.le_trans (hk _) hd;simp only[world]at hwd;rw[k1.kH]at hwd;rw[e,e'];simp only[Array.empty_append];refine di.trans k1 (fun z hz=>k2 z (ba _ _ _ hz)) (jq c n w1 fP x y k1 hq (hm.SV k1) ?_);rw[k1.kH];omega
 .rw[e,e'];simp only[Array.empty_append];exact di.trans k1 (fun z hz=>k2 z (ba _ _ _ hz)) (OT c n w1 fP v v' k1 hv)
end
section
variable {P:Program} {F:Array Func} {S:Nat->Bool} {K:Kz} {N:Nat} {p:Pi}
structure NB (S:Nat->Bool) (K:Kz) (p:Pi) (l l':Loop):Prop where
 h1:l.state=l'.state
 h2:l.pending=l'.pending
 h3:l.fn=l'.fn
 h4:AR S p l.tmps l'.tmps
 h5:l.params=l'.params
 h6:l.assign=l'.assign
 h7:l.body=l'.body
 h8:p l.defers l'.defers
 k1:S l.fn=true
 k2:K l.assign
 k3:K l.body
 k4:∀c,l.pending=some c->K c
 k5:K (.label (100000+l.fn))
theorem NB.or {l l':Loop} (x:NB S K p l l'):OR S K p (.loop l) (.loop l'):=.loop x.h1 x.h2 x.h3 x.h4 x.h5 x.h6 x.h7 x.h8 x.k1 x.k2 x.k3 x.k4 x.k5
theorem SR.getLoop (h:p r r'):SR P F S K N (fun q l l'=>NB S K q l l') (Instr.getLoop r) (Instr.getLoop r') p:=by
 unfold Instr.getLoop;refine(SR.getObj h).bind fun q o o' hq ho=>?_;cases ho<;>first|exact SR.stuck|skip
 rename_i h1 h2 h3 h4 h5 h6 h7 h8 k1 k2 k3 k4 k5;exact SR.pure ⟨h1,h2,h3,h4,h5,h6,h7,h8,k1,k2,k3,k4,k5⟩
theorem SR.enterLoop {f f':Nat} (hff:f=f') (hf:S f=true) (hz:K (.label (100000+f))) (hx:AR S p xs cQ) (ps:Array Tmp) {a c:Code} (ha:K a) (hc:K c) {o o':Option Nat} (ho:RR p o o'):
 SR P F S K N (fun q x y=>q x.1 y.1/\DL q x.2 y.2) (Instr.enterLoop f xs ps a c o) (Instr.enterLoop f' cQ ps a c o') p:=by
 subst hff;unfold Instr.enterLoop;cases ho with
 |none=>
  simp only[bind_assoc,pure_bind];refine(SR.newObj .dQ fun _ _ _ _ _ _ _ a=>by cases a).bind fun q r r' hq hr=>?_;refine(SR.newObj (NB.or (l:={state:=.ready,pending:=none,fn:=f,tmps:=xs,params:=ps,assign:=a,body:=c,defers:=r}) (l':={state:=.ready,pending:=none,fn:=f,tmps:=cQ,params:=ps,assign:=a,body:=c,defers:=r'}) ⟨rfl,rfl,rfl,hx.mono hq,rfl,rfl,rfl,hr.1,hf,ha,hc,fun c h=>(by cases h),hz⟩) fun _ _ _ _ _ _ _ a=>by cases a).bind fun q2 s s' cx hs=>?_;exact SR.pure ⟨hs.1,.cons (cx _ _ hr.1) .nil⟩
 |some h=>
  simp only[bind_assoc,pure_bind];refine(SR.getLoop h).bind fun q r r' hq hr=>?_;refine(SR.newObj (NB.or (l:={state:=.ready,pending:=none,fn:=f,tmps:=xs,params:=ps,assign:=a,body:=c,defers:=r.defers}) (l':={state:=.ready,pending:=none,fn:=f,tmps:=cQ,params:=ps,assign:=a,body:=c,defers:=r'.defers}) ⟨rfl,rfl,rfl,hx.mono hq,rfl,rfl,rfl,hr.h8,hf,ha,hc,fun c h=>(by cases h),hz⟩) fun _ _ _ _ _ _ _ a=>by cases a).bind fun q2 s s' cx hs=>?_;exact SR.pure ⟨hs.1,.nil⟩
theorem SR.beginRound (h:p r r'):SR P F S K N (QE Unit) (Instr.beginRound r) (Instr.beginRound r') p:=by
 unfold Instr.beginRound;refine(SR.getLoop h).bind fun q l l' hq hl=>?_;refine(SR.setObj (hq _ _ h) (NB.or (l:={l with state:=.busy}) (l':={l' with state:=.busy}) ⟨rfl,hl.h2,hl.h3,hl.h4,hl.h5,hl.h6,hl.h7,hl.h8,hl.k1,hl.k2,hl.k3,hl.k4,hl.k5⟩) fun _ _ _ _ _ _ _ a=>by cases a).aC fun q2 _ cx=>?_;rw[<-hl.h1];cases l.state with
 |ready=>exact SR.pure rfl
 |done=>exact SR.err _
 |busy=>exact SR.err _
 |exhausted=>exact SR.err _
theorem SR.endRound (h:p r r') (j:Option Code) (hj:∀c,j=some c->K c):SR P F S K N (QV S) (Instr.endRound r j) (Instr.endRound r' j) p:=by
 unfold Instr.endRound;refine(SR.getLoop h).bind fun q l l' hq hl=>?_;refine(SR.setObj (hq _ _ h) (NB.or (l:={l with state:=if j.isNone then .ready else .done,pending:=j}) (l':={l' with state:=if j.isNone then .ready else .done,pending:=j}) ⟨rfl,rfl,hl.h3,hl.h4,hl.h5,hl.h6,hl.h7,hl.h8,hl.k1,hl.k2,hl.k3,hj,hl.k5⟩) fun _ _ _ _ _ _ _ a=>by cases a).aC fun q2 _ cx=>?_;exact SR.pure (VR.plain 2 _ rfl)
theorem SR.endLoop (h:p r r'):SR P F S K N (fun _ a b=>a=b/\∀c,a=some c->K c) (Instr.endLoop r) (Instr.endLoop r') p:=by
 unfold Instr.endLoop;refine(SR.getLoop h).bind fun q l l' hq hl=>?_;rw[<-hl.h1]
 have tail:∀q2,Le q q2->SR P F S K N (fun _ a b=>a=b/\∀c,a=some c->K c) (Go.setObj r (.loop {l with state:=.exhausted})>>=fun _=>(Pure.pure l.pending:Sem (Option Code))) (Go.setObj r' (.loop {l' with state:=.exhausted})>>=fun _=>(Pure.pure l'.pending:Sem (Option Code))) q2:=fun q2 cx=>by
  refine(SR.setObj (cx _ _ (hq _ _ h)) (NB.or (l:={l with state:=.exhausted}) (l':={l' with state:=.exhausted}) ⟨rfl,hl.h2,hl.h3,hl.h4.mono cx,hl.h5,hl.h6,hl.h7,cx _ _ hl.h8,hl.k1,hl.k2,hl.k3,hl.k4,hl.k5⟩) fun _ _ _ _ _ _ _ a=>by cases a).aC fun q3 _ fX=>?_;exact SR.pure ⟨hl.h2,hl.k4⟩
 split
 .exact(SR.err (α:=PUnit) (β:=PUnit) (Q:=QE PUnit) _).aC fun q2 _ cx=>tail q2 cx
 .exact tail q (Le.refl q)
theorem SR.takeDeferred (h:p r r'):SR P F S K N (fun _ a b=>a=[]/\b=[]) (Instr.takeDeferred r) (Instr.takeDeferred r') p:=by
 unfold Instr.takeDeferred;refine(SR.getObj h).bind fun q o o' hq ho=>?_;cases ho<;>first|exact SR.stuck|skip
 refine(SR.setObj (hq _ _ h) .dP fun _ _ _ _ _ _ _ a=>by cases a).aC fun q2 _ cx=>?_;exact SR.pure ⟨rfl,rfl⟩
theorem SR.SX (f f':α->Sem Value):∀(l:List α) {p:Pi} {acc AQ:Array Value},(∀x q,Le p q->SR P F S K N (QV S) (f x) (f' x) q)->AR S p acc AQ->
 SR P F S K N (QA S) (l.foldlM (fun bs a=>Functor.map bs.push (f a)) acc) (l.foldlM (fun bs a=>Functor.map bs.push (f' a)) AQ) p:=by
 intro l;induction l with
 |nil=>intro p acc AQ _ ha;exact SR.pure ha
 |cons x l ih=>
  intro p acc AQ h ha;simp only[List.foldlM_cons];refine SR.bind (Q:=QA S) ?_ fun q a b hq nh=>ih (fun y q2 cx=>h y q2 (hq.trans cx)) nh;exact(h x p (Le.refl p)).bind fun q b b' hq hb=>SR.pure ((ha.mono hq).push hb)
theorem SR.results {fn kD:Func} (hr:fn.results=kD.results) (h:AR S p xs cQ):SR P F S K N (QV S) (Go.results fn xs) (Go.results kD cQ) p:=by
 unfold Go.results;rw[<-hr];refine SR.bind (Q:=QA S) ?_ fun q vs Nx hq hv=>?_
 .rw[Array.mapM_eq_foldlM,<-Array.foldlM_toList,Array.mapM_eq_foldlM,<-Array.foldlM_toList];refine SR.SX _ _ _ (fun x q hq=>?_) AR.empty;cases x with
  |tmp t=>exact SR.pure ((h.mono hq).getD t VR.undef)
  |cell a t=>exact(SR.asAddr ((h.mono hq).getD a VR.undef)).bind fun q2 a a' cx ha=>SR.loadVar t ha
 .refine SR.pure ?_;have:=hv.1;by_cases h1:vs.size=1
  .have x9:Nx.size=1:=by omega
   simp only[h1,x9,dif_pos];exact hv.2 0 _ _ (by simp[h1]) (by simp[x9])
  .have x9:Nx.size≠1:=by omega
   simp only[h1,x9,dif_neg,not_false_eq_true];exact hv.tuple
end
section
variable {P:Program} {F:Array Func} {S:Nat->Bool} {H:FuncId->Code->Code->Prop} {N:Nat} {p:Pi} {w w':World} {b:Frame} {bs:List Frame} {aP:List Frame}
theorem Lg {f:Nat} (h:KS P S (.label (100000+f))):S (P.funcs.size+P.globals.size+1+f)=false:=by
 have h:(decide (100000+f<100000)||!S (P.funcs.size+P.globals.size+1+(100000+f-100000)))=true:=h;rw[Nat.add_sub_cancel_left,decide_eq_false (by omega),Bool.false_or]at h;simpa using h
theorem Lh {f:Nat} (h:S (P.funcs.size+P.globals.size+1+f)=false):KS P S (.label (100000+f)):=by
 show(decide (100000+f<100000)||!S (P.funcs.size+P.globals.size+1+(100000+f-100000)))=true;rw[Nat.add_sub_cancel_left,h];simp
theorem TL.kind {H:Code->Code->Prop} (h:TL P S H p l l'):(match l with|.call _ true _ _::_=>CallKind.wrapped|_=>CallKind.normal)=.normal/\(match l' with|.call _ true _ _::_=>CallKind.wrapped|_=>CallKind.normal)=.normal:=by
 cases h with
 |nil=>exact⟨rfl,rfl⟩
 |cons hi ht=>cases hi<;>exact⟨rfl,rfl⟩
theorem FL.head (h:FL P S H p (f::t) (f'::t')):ky P S H p f f':=by
 cases h with
 |one h=>exact h
 |cons h=>exact h
theorem FL.top {g':Frame} (h:FL P S H p (f::t) (f'::t')) (hg:ky P S H p g g') (hr:g.roundOf=f.roundOf/\g.fn=f.fn):FL P S H p (g::t) (g'::t'):=by
 cases h with
 |one h r=>exact .one hg ⟨hr.1.trans r.1,by rw[hr.2];exact r.2⟩
 |cons h t=>exact .cons hg t
theorem dD (f:Frame) (v:Value):(f.finish v).roundOf=f.roundOf/\(f.finish v).fn=f.fn:=by
 unfold Frame.finish;split<;>exact⟨rfl,rfl⟩
theorem iK (f:Frame) (v:List PanicEntry):(f.raise v).roundOf=f.roundOf/\(f.raise v).fn=f.fn:=by
 unfold Frame.raise;split<;>exact⟨rfl,rfl⟩
theorem di.apply (hc:Closed P F S H) (hw:WR P S (KS P S) N p w w') {top:List Frame} (hf:FL P S H p (f::top) (f'::dn)) (hm:kh m w w')
 {s s':Sem Next} (hs:SR P F S (KS P S) N (QX S (KS P S)) s s' p) (hd:(gw (stepG.apply (ae P F) true f' (dn++aP) none s' w')).drawn<=w'.drawn+m):
 di P S H N p w w' b bs aP (stepG.apply P true f (top++b::bs) none s w) (stepG.apply (ae P F) true f' (dn++aP) none s' w'):=by
 have ho:=SR.sound hs w w' #[] #[] m hw hm (Nat.le_trans (pK ..) hd);have gt:=hf.head;have hk:=gt.todo.kind;have SY:(f'.kind==CallKind.early)=false:=by rw[gt.kg];rfl
 rcases ho with⟨x,w1,es1,e,hx⟩|⟨c,n,w1,fP,es1,fs,k1,k2,⟨x,y,e,e',hq⟩|⟨v,v',e,e',hv⟩⟩
 .cases x with
  |stuck why=>exact .inl ⟨_,_,_,by simp only[stepG.apply,if_true,e];rfl⟩
  |unsupported u=>cases u<;>first|exact absurd hx id|exact .inl ⟨_,_,_,by simp only[stepG.apply,if_true,e];rfl⟩
  |_=>exact absurd hx id
 .rw[Array.empty_append]at e';have hle:=eG p w.heap.size w'.heap.size c;have ba:∀z∈seen (ae P F) f'.fn fs,Ki N (ext p w.heap.size w'.heap.size c) z:=fun z hz=>k2 z (mem_seen hz);have AE:=hf.mono hle;cases hq with
  | @value v v' h=>
    have t:=di.trans (b:=b) (bs:=bs) (aP:=aP) k1 (es:=seen P f.fn (if f.kind==CallKind.early then #[]else es1)) ba (di.go k1.rel (AE.top (AE.head.finish h) (dD f v)));simpa only[stepG.apply,if_true,e,e',SY,Bool.false_eq_true,if_false,GStep.after]using t
  |skip=>
   have t:=di.trans (b:=b) (bs:=bs) (aP:=aP) k1 (es:=seen P f.fn (if f.kind==CallKind.early then #[]else es1)) ba (di.go k1.rel (AE.top (AE.head.finish VR.undef) (dD f _)));simpa only[stepG.apply,if_true,e,e',SY,Bool.false_eq_true,if_false,GStep.after]using t
  | @enter g xs cQ hg h=>
    have t:=di.trans (b:=b) (bs:=bs) (aP:=aP) k1 (es:=seen P f.fn (if f.kind==CallKind.early then #[]else es1)) ba (di.go k1.rel (FL.cons (ky.enter hc hg h hk.1 hk.2) AE));simp only[stepG.apply,if_true,e,e',SY,Bool.false_eq_true,if_false,GStep.after];exact t
  | @round l l' g xs cQ a1 a2 hl hg h h1 h2 hz=>
    have hn:∀a b,¬H g a b:=(hc.ul g hg).2 (Lg hz);have t:=di.trans (b:=b) (bs:=bs) (aP:=aP) k1 (es:=seen P f.fn (if f.kind==CallKind.early then #[]else es1)) ba (di.go k1.rel (FL.cons (ky.Ld hn hl hg h h1 h2) AE));simpa only[stepG.apply,if_true,e,e',SY,Bool.false_eq_true,if_false,GStep.after,List.cons_append]using t
 .rw[Array.empty_append]at e';have hle:=eG p w.heap.size w'.heap.size c;have ba:∀z∈seen (ae P F) f'.fn fs,Ki N (ext p w.heap.size w'.heap.size c) z:=fun z hz=>k2 z (mem_seen hz);have AE:=hf.mono hle;have t:=di.trans (b:=b) (bs:=bs) (aP:=aP) k1 (es:=seen P f.fn (if f.kind==CallKind.early then #[]else es1)) ba (di.go k1.rel (AE.top (AE.head.raise (.cons false false hv .nil)) (iK f _)));simpa only[stepG.apply,if_true,e,e',SY,Bool.false_eq_true,if_false,GStep.after]using t
end
section
variable {P:Program} {F:Array Func} {S:Nat->Bool} {H:FuncId->Code->Code->Prop} {N:Nat} {p:Pi} {w w':World} {b:Frame} {bs:List Frame} {aP:List Frame}
def OU (P:Program) (S:Nat->Bool) (main':Bool) (aP:List Frame):Prop:=aP=[]->main'=true/\∀f,S f=true->P.inits.idxOf? f=none
theorem di.doReturn (hw:WR P S (KS P S) N p w w') {top:List Frame} (hf:FL P S H p (f::top) (f'::dn)) (main main':Bool) (hb:OU P S main' aP) (hv:VR S p v v'):
 di P S H N p w w' b bs aP (Go.doReturn P main f (top++b::bs) none v w) (Go.doReturn (ae P F) main' f' (dn++aP) none v' w'):=by
 have h1:=hf.head.kind;have h2:=hf.head.kg;have h3:=hf.head.fn;have h4:=hf.head.NA;cases hf with
 |one h r=>
  cases aP with
  |nil=>
   obtain⟨rfl,fk⟩:=hb rfl;have hi:(ae P F).inits.idxOf? f'.fn=none:=by rw[<-h3];exact fk _ h4
   unfold Go.doReturn;simp only[h1,h2,List.nil_append,hi];exact di.Lf hw hv
  |cons b' vH=>unfold Go.doReturn;rw[h1,h2];exact di.ret hw hv b' vH
 |cons h t=>
  unfold Go.doReturn;rw[h1,h2];cases t with
  |one h r=>exact di.go hw (.one (h.finish hv) ⟨(dD _ _).1.trans r.1,by rw[(dD _ _).2];exact r.2⟩)
  |cons h t=>exact di.go hw (.cons (h.finish hv) t)
def vI:Option Code->Bool
 |none=>true
 |some .ret=>true
 |_=>false
def gJ (P:Program) (main:Bool) (fr:Frame) (callers:List Frame) (jump:Option Code) (w:World):GStep:=
 match fr.roundOf with
 |none=>if vI jump then .go {frame:={fr with mode:=.returning},callers,status:=.running,dying:=none} w else .ended (.stuck "exit, goto: no such block or label" (fr.pos P)) w
 |some l=>
  GStep.after (seen P fr.fn ((Instr.endRound l jump).runT P w #[]).2)<|match((Instr.endRound l jump).runT P w #[]).1 with
  |.ok v w=>Go.doReturn P main fr callers none v w
  |.halt _ w=>.ended (.stuck "range over a function: no such loop" (fr.pos P)) w
theorem kO (main:Bool) (f:Frame) (cs:List Frame) (hk:f.kind=.normal) (v:Value) (w:World):gw (Go.doReturn P main f cs none v w)=w:=by
 unfold Go.doReturn;rw[hk];cases cs with
 |nil=>
  simp only;split
  .rfl
  .split<;>rfl
 |cons c cs=>rfl
theorem iL (main:Bool) (h:f.roundOf=none) (cs:List Frame) (jump:Option Code) (w:World):
 gJ P main f cs jump w=if vI jump then .go {frame:={f with mode:=.returning},callers:=cs,status:=.running,dying:=none} w else .ended (.stuck "exit, goto: no such block or label" (f.pos P)) w:=by
 unfold gJ;split
 .rfl
 .rename_i h2;rw[h]at h2;cases h2
theorem iM (main:Bool) {l:Nat} (h:f.roundOf=some l) (cs:List Frame) (jump:Option Code) (w:World):
 gJ P main f cs jump w=GStep.after (seen P f.fn ((Instr.endRound l jump).runT P w #[]).2) (match((Instr.endRound l jump).runT P w #[]).1 with
 |.ok v w=>Go.doReturn P main f cs none v w
 |.halt _ w=>.ended (.stuck "range over a function: no such loop" (f.pos P)) w):=by
 unfold gJ;split
 .rename_i h2;rw[h]at h2;cases h2
 .rename_i h2;rw[h]at h2;cases h2;rfl
theorem GO {x y:Option Nat} (h:RR p x y):(x=none/\y=none)\/∃l l',x=some l/\y=some l'/\p l l':=by
 cases h with
 |none=>exact .inl ⟨rfl,rfl⟩
 |some h=>exact .inr ⟨_,_,rfl,rfl,h⟩
theorem di.leave (hw:WR P S (KS P S) N p w w') {top:List Frame} (hf:FL P S H p (f::top) (f'::dn)) (main main':Bool) (hb:OU P S main' aP) (jump:Option Code) (hj:∀c,jump=some c->codeOk P S c=true)
 (hm:kh m w w') (hd:(gw (gJ (ae P F) main' f' (dn++aP) jump w')).drawn<=w'.drawn+m):
 di P S H N p w w' b bs aP (gJ P main f (top++b::bs) jump w) (gJ (ae P F) main' f' (dn++aP) jump w'):=by
 have gt:=hf.head;rcases GO gt.round with⟨h1,h2⟩|⟨l,l',h1,h2,hl⟩
 .rw[iL main h1,iL main' h2];cases hj:vI jump with
  |true=>exact di.go hw (hf.top (g:={f with mode:=.returning}) (g':={f' with mode:=.returning}) ⟨gt.fn,gt.NA,gt.tmps,gt.todo,gt.defers,.returning,gt.kind,gt.kg,gt.round,gt.ul,gt.nd,gt.wide⟩ ⟨rfl,rfl⟩)
  |false=>exact di.ended ..
 .rw[iM main' h2]at hd;rw[iM main h1,iM main' h2];rw[jw]at hd
  refine di.run (SR.endRound hl jump hj) hw hm (ev:=fun r es=>seen P f.fn es) (OS:=fun r es=>seen (ae P F) f'.fn es) (fun r es e he=>mem_seen he)
   (k:=fun r=>match r with|.ok v w=>Go.doReturn P main f (top++b::bs) none v w|.halt _ w=>.ended (.stuck "range over a function: no such loop" (f.pos P)) w)
   (k':=fun r=>match r with|.ok v w=>Go.doReturn (ae P F) main' f' (dn++aP) none v w|.halt _ w=>.ended (.stuck "range over a function: no such loop" (f'.pos (ae P F))) w)
   hd ?_ ?_ ?_ ?_
  .intro r;cases r with
   |ok v w=>simp only;rw[kO _ _ _ gt.kg];exact Nat.le_refl _
   |halt=>exact Nat.le_refl _
  .intro x w1 _;exact⟨_,_,_,rfl⟩
  .intro c n w1 fP x y qr hv _ _;exact di.doReturn qr.rel (hf.mono (eG _ _ _ _)) main main' hb hv
  .intro c n w1 fP v v' qr hv;exact di.ended ..
theorem ky.mk' (h:ky P S H p f f') (hl:TL P S (H f.fn) p l l') {ds mg:List Deferred} (hd:DL p ds mg) (EF:(ds=[]/\mg=[])\/∀a b,¬H f.fn a b):ky P S H p {f with todo:=l,defers:=ds} {f' with todo:=l',defers:=mg}:=
 ⟨h.fn,h.NA,h.tmps,hl,hd,h.mode,h.kind,h.kg,h.round,h.ul,EF,h.wide⟩
theorem DL.append {l l' m m':List Deferred} (h:DL p l l') (k:DL p m m'):DL p (l++m) (l'++m'):=by
 induction h with
 |nil=>exact k
 |cons g _ ih=>exact .cons g ih
end
theorem WR.no {P:Program} {S:Nat->Bool} {K:Kz} {N:Nat} {p:Pi} {w w':World} (h:WR P S K N p w w') {a:Prop} (x:p.l=true):a:=by rw[h.str]at x;cases x
section
variable {P:Program} {F:Array Func} {S:Nat->Bool} {H:FuncId->Code->Code->Prop} {N:Nat} {p:Pi} {w w':World} {b:Frame} {bs:List Frame} {aP:List Frame}
theorem d8 (main:Bool) (h:f.todo=[]) (cs:List Frame) (w:World):stepG.exec P main true f cs none w=gJ P main f cs none w:=by
 obtain⟨fn,tmps,todo,ds,mode,kind,ro⟩:=f;simp only at h;subst h;cases ro<;>rfl
theorem d9 (main:Bool) (h:f.todo=.code .ret::k) (cs:List Frame) (w:World):stepG.exec P main true f cs none w=gJ P main f cs (some .ret) w:=by
 obtain⟨fn,tmps,todo,ds,mode,kind,ro⟩:=f;simp only at h;subst h;cases ro<;>rfl
theorem dL (main:Bool) (h:f.todo=.code (.exit id)::k) (cs:List Frame) (w:World):
 stepG.exec P main true f cs none w=match exitTo id k with|none=>gJ P main f cs (some (.exit id)) w|some t=>.go {frame:={f with todo:=t},callers:=cs,status:=.running,dying:=none} w:=by
 obtain⟨fn,tmps,todo,ds,mode,kind,ro⟩:=f;simp only at h;subst h;cases ro<;>(unfold stepG.exec;dsimp only;cases exitTo id k<;>rfl)
theorem dM (main:Bool) (h:f.todo=.code (.goto id)::k) (cs:List Frame) (w:World):
 stepG.exec P main true f cs none w=match gotoIn id k with|none=>gJ P main f cs (some (.goto id)) w|some t=>.go {frame:={f with todo:=t},callers:=cs,status:=.running,dying:=none} w:=by
 obtain⟨fn,tmps,todo,ds,mode,kind,ro⟩:=f;simp only at h;subst h;cases ro<;>(unfold stepG.exec;dsimp only;cases gotoIn id k<;>rfl)
theorem di.exec (hc:Closed P F S H) (hw:WR P S (KS P S) N p w w') (hg:ii P S p) {top:List Frame} (hf:FL P S H p (f::top) (f'::dn)) (XW:∀c c' k k',f.todo=.code c::k->f'.todo=.code c'::k'->¬H f.fn c c') (iF:f'.mode=.run->¬oM S f') (jS:f'.mode=.run) (main main':Bool) (hb:OU P S main' aP)
 (hm:kh m w w') (hd:(gw (stepG.exec (ae P F) main' true f' (dn++aP) none w')).drawn<=w'.drawn+m):
 di P S H N p w w' b bs aP (stepG.exec P main true f (top++b::bs) none w) (stepG.exec (ae P F) main' true f' (dn++aP) none w'):=by
 have gt:=hf.head
 have te:∀{l l':List Item},TL P S (H f.fn) p l l'->di P S H N p w w' b bs aP (.go {frame:={f with todo:=l},callers:=top++b::bs,status:=.running,dying:=none} w) (.go {frame:={f' with todo:=l'},callers:=dn++aP,status:=.running,dying:=none} w'):=
  fun h=>di.go hw (hf.top (gt.AW h) ⟨rfl,rfl⟩)
 have ht:=gt.todo;have ba:=gt.eval hg;generalize h1:f.todo=t at ht;generalize h2:f'.todo=t' at ht;cases ht with
 |nil=>
  rw[d8 main' h2]at hd;rw[d8 main h1,d8 main' h2];exact di.leave hw hf main main' hb none (fun c h=>by cases h) hm hd
 | @cons i i' k k' hi ht=>
   cases hi with
   | @code c c' NC=>
     cases NC with
     |hole hh=>exact absurd hh (XW _ _ _ _ h1 h2)
     |seq ha hb=>unfold stepG.exec;simp only[h1,h2];exact te (.cons (.code ha) (.cons (.code hb) ht))
     |block id ha=>unfold stepG.exec;simp only[h1,h2];exact te (.cons (.code ha) (.cons (.inBlock id) ht))
     |loop ha=>unfold stepG.exec;simp only[h1,h2];exact te (.cons (.code ha) (.cons (.inLoop ha) ht))
     |refuse why c2 hr=>unfold stepG.exec;simp only[h1];exact di.ended ..
     | @cond x a a' c c' hx ha hb=>
       have hx:=ba.at hx;unfold stepG.exec;simp only[h1,h2];revert hx;generalize f.eval x=v;generalize f'.eval x=v';intro hx;cases hx<;>first|exact di.ended .. |skip
       rename_i bo;refine te (.cons (.code ?_) ht);cases bo
       .exact hb
       .exact ha
     |same fL Gr=>
      cases c with
      |ret=>
       rw[d9 main' h2]at hd;rw[d9 main h1,d9 main' h2];exact di.leave hw hf main main' hb (some .ret) (fun c h=>by cases h;rfl) hm hd
      |exit id=>
       rw[dL main' h2]at hd;rw[dL main h1,dL main' h2];rcases AX id ht with⟨e1,e2⟩|⟨j,j',e1,e2,hj⟩
       .rw[e2]at hd;rw[e1,e2];exact di.leave hw hf main main' hb (some (.exit id)) (fun c h=>by cases h;rfl) hm hd
       .rw[e1,e2];exact te hj
      |goto id=>
       rw[dM main' h2]at hd;rw[dM main h1,dM main' h2];rcases AY id ht with⟨e1,e2⟩|⟨j,j',e1,e2,hj⟩
       .rw[e2]at hd;rw[e1,e2];exact di.leave hw hf main main' hb (some (.goto id)) (fun c h=>by cases h;rfl) hm hd
       .rw[e1,e2];exact te hj
      |skip=>
       unfold stepG.exec;simp only[h1,h2];exact te ht
      |label l=>
       unfold stepG.exec;simp only[h1,h2];exact te ht
      |seq a c=>
       simp only[codeOk,cR,Bool.and_eq_true]at fL Gr;unfold stepG.exec;simp only[h1,h2];exact te (.cons (.code (.same fL.1 (Gr.imp And.left fun x=>x))) (.cons (.code (.same fL.2 (Gr.imp And.right fun x=>x))) ht))
      |cond x a c=>
       simp only[codeOk,cR,Bool.and_eq_true]at fL Gr;have hx:=ba.at fL.1.1;unfold stepG.exec;simp only[h1,h2];revert hx;generalize f.eval x=v;generalize f'.eval x=v';intro hx;cases hx<;>first|exact di.ended .. |skip
       rename_i bo;refine te (.cons (.code ?_) ht);cases bo
       .exact .same fL.2 (Gr.imp And.right fun x=>x)
       .exact .same fL.1.2 (Gr.imp And.left fun x=>x)
      |block id c=>
       unfold stepG.exec;simp only[h1,h2];exact te (.cons (.code (.same fL Gr)) (.cons (.inBlock id) ht))
      |loop c=>
       unfold stepG.exec;simp only[h1,h2];exact te (.cons (.code (.same fL Gr)) (.cons (.inLoop (.same fL Gr)) ht))
      |scope c=>
       unfold stepG.exec;simp only[h1,h2];exact te (.cons (.code (.same fL Gr)) (.cons (.inScope fL Gr) ht))
      |refuse why=>unfold stepG.exec;simp only[h1,h2];exact di.ended ..
      |region id ops draw=>
       have ru:∀o∈ops,(nk P S o.op||fw S o.op)=true:=fun o ho=>(Array.all_eq_true_iff_forall_mem.1 fL) o ho;unfold stepG.exec at hd⊢;simp only[h1,h2]at hd⊢;cases draw with
       |false=>exact te (.cons (.inRegion _ ru) ht)
       |true=>
        simp only[Bool.not_true,Bool.false_eq_true,if_false,choose,Sem.run,Question.forced,Question.cut]at hd⊢
        have Ey:0<m:=by
         simp only[gw]at hd;omega
        have ht0:=hm 0 Ey (.order f'.fn id);simp only[Nat.add_zero]at ht0;have Wn:w.tape w.drawn (.order f.fn id)=w'.tape w'.drawn (.order f'.fn id):=by rw[gt.fn];exact ht0
        rw[Wn];have kd:WR P S (KS P S) N p {w with drawn:=w.drawn+1} {w' with drawn:=w'.drawn+1}:=⟨hw.inj,hw.blk,hw.low,hw.fix,hw.fv,hw.jr,hw.str,hw.tz⟩
        have ue:cq P S (KS P S) N p w w' 0 1 {w with drawn:=w.drawn+1} {w' with drawn:=w'.drawn+1}:=
         ⟨by rw[bE];exact kd,rfl,rfl,rfl,rfl,rfl,rfl,rfl,rfl,fun _ _ _=>rfl⟩
        refine .inr (.inr ⟨0,1,_,_,#[],#[],ue,by simp,.inl ⟨_,_,top,dn,?_,rfl,rfl⟩⟩);rw[bE];exact hf.top (gt.AW (.cons (.inRegion _ ru) ht)) ⟨rfl,rfl⟩
      |rangeFunc x ps a c=>
       simp only[codeOk,Bool.and_eq_true]at fL;unfold stepG.exec at hd⊢;simp only[h1,h2]at hd⊢;rw[jw]at hd;have iF:∀a b,¬H f.fn a b:=Gr.resolve_left (by simp[cR]);have hz:KS P S (.label (100000+f.fn)):=Lh ((hc.ul f.fn gt.NA).1 iF)
       refine di.run (SR.enterLoop gt.fn gt.NA hz gt.tmps ps fL.1.2 fL.2 gt.round) hw hm (ev:=fun r es=>seen P f.fn es) (OS:=fun r es=>seen (ae P F) f'.fn es) (fun r es e he=>mem_seen he)
        (k:=fun r=>match r with
          |.ok (l,mark) w=>stepG.apply P true {f with todo:=.inRangeFunc l::k,defers:=mark++f.defers} (top++b::bs) none
             (do let d<-resolve (Frame.eval {f with todo:=.inRangeFunc l::k,defers:=mark++f.defers}) {callee:=.value x,args:=#[.const (.func (.yield l) #[] #[])],argTypes:=#[]} 0;invoke d.target d.args) w
          |.halt _ w=>.ended (.stuck "range over a function: no such loop" (f.pos P)) w)
        (k':=fun r=>match r with
          |.ok (l,mark) w=>stepG.apply (ae P F) true {f' with todo:=.inRangeFunc l::k',defers:=mark++f'.defers} (dn++aP) none
             (do let d<-resolve (Frame.eval {f' with todo:=.inRangeFunc l::k',defers:=mark++f'.defers}) {callee:=.value x,args:=#[.const (.func (.yield l) #[] #[])],argTypes:=#[]} 0;invoke d.target d.args) w
          |.halt _ w=>.ended (.stuck "range over a function: no such loop" (f'.pos (ae P F))) w)
        ?_ ?_ ?_ ?_ ?_
       .exact hd
       .intro r;cases r with
        |ok x w1=>exact Nat.le_trans (mz (ae P F) _ w1 #[]) (pK ..)
        |halt=>exact Nat.le_refl _
       .intro x w1 _;exact⟨_,_,_,rfl⟩
       .intro cc n w1 fP y y' qr hy ue EG;obtain⟨l,mark⟩:=y;obtain⟨l',rz⟩:=y';have hle:=eG p w.heap.size w'.heap.size cc;have SZ:=(gt.mono hle).mk' (.cons (.np hy.1 iF) (ht.mono hle)) (hy.2.append (gt.defers.mono hle)) (.inr iF);refine di.apply hc qr.rel ((hf.mono hle).top SZ ⟨rfl,rfl⟩) ue ?_ EG;refine SR.kM hc.mC ?_ ?_
        .exact(SZ.eval (hg.mono hle)).at fL.1.1
        .have:=AR.one (S:=S) (VR.yield (S:=S) hy.1);simpa [Frame.eval]using this
       .intro cc n w1 fP v v' qr hv;exact di.ended ..
   | @inBlock id=>unfold stepG.exec;simp only[h1,h2];exact te ht
   | @inScope c fL _=>unfold stepG.exec;simp only[h1,h2];exact te ht
   | @inLoop c c' NC=>unfold stepG.exec;simp only[h1,h2];exact te (.cons (.code NC) (.cons (.inLoop NC) ht))
   | @np l l' hl _=>unfold stepG.exec;simp only[h1,h2];exact di.ended ..
   | @begin=>
     unfold stepG.exec at hd⊢;simp only[h1,h2]at hd⊢;refine di.apply hc hw hf hm ?_ hd;rcases GO gt.round with⟨e1,e2⟩|⟨l,l',e1,e2,hl⟩
     .rw[e1,e2];exact(SR.stuck (α:=Unit) (β:=Unit) (Q:=QE Unit)).aC fun q _ hq=>SR.pure .skip
     .rw[e1,e2];exact(SR.beginRound hl).aC fun q _ hq=>SR.pure .skip
   | @jv l l' hl iF=>
     unfold stepG.exec at hd⊢;simp only[h1,h2]at hd⊢;rw[jw]at hd
     refine di.run (SR.endLoop hl) hw hm (ev:=fun r es=>seen P f.fn es) (OS:=fun r es=>seen (ae P F) f'.fn es) (fun r es e he=>mem_seen he)
      (k:=fun r=>match r with
        |.ok jump w=>.go {frame:={f with todo:=(jump.map Item.code).toList++k},callers:=top++b::bs,status:=.running,dying:=none} w
        |.halt (.panic v) w=>.go {frame:=f.raise [{v,recovered:=false}],callers:=top++b::bs,status:=.running,dying:=none} w
        |.halt _ w=>.ended (.stuck "range over a function: no such loop" (f.pos P)) w)
      (k':=fun r=>match r with
        |.ok jump w=>.go {frame:={f' with todo:=(jump.map Item.code).toList++k'},callers:=dn++aP,status:=.running,dying:=none} w
        |.halt (.panic v) w=>.go {frame:=f'.raise [{v,recovered:=false}],callers:=dn++aP,status:=.running,dying:=none} w
        |.halt _ w=>.ended (.stuck "range over a function: no such loop" (f'.pos (ae P F))) w)
      hd ?_ ?_ ?_ ?_
     .intro r;cases r with
      |ok x w1=>exact Nat.le_refl _
      |halt x w1=>cases x<;>exact Nat.le_refl _
     .intro x w1 hx;cases x<;>first|exact⟨_,_,_,rfl⟩|exact absurd hx id
     .intro cc n w1 fP y y' qr hy ue EG;have hle:=eG p w.heap.size w'.heap.size cc;obtain⟨rfl,hy⟩:=hy;refine di.go qr.rel ((hf.mono hle).top ((gt.mono hle).AW ?_) ⟨rfl,rfl⟩);cases y with
      |none=>exact ht.mono hle
      |some c=>exact .cons (.code (.same (hy c rfl) (.inr iF))) (ht.mono hle)
     .intro cc n w1 fP v v' qr hv;have hle:=eG p w.heap.size w'.heap.size cc;exact di.go qr.rel ((hf.mono hle).top ((gt.mono hle).raise (.cons false false hv .nil)) (iK f _))
   | @inRegion ops is ru=>
     cases is with
     |nil=>unfold stepG.exec;simp only[h1,h2];exact te ht
     |cons i is=>
      unfold stepG.exec at hd⊢;simp only[h1,h2]at hd⊢;have hy:∀j,yielded ops f'.tmps j=yielded ops f.tmps j:=fun j=>(pJ ops gt.tmps j).symm;have hyy:(yielded ops f'.tmps)=(yielded ops f.tmps):=funext hy;rw[hyy]at hd⊢;split at hd
      .rename_i kP;rw[if_pos kP,if_pos kP];have um:f.oper?=ops[i]?:=by unfold Frame.oper?;rw[h1]
       have oN:f'.oper?=ops[i]?:=by unfold Frame.oper?;rw[h2]
       unfold stepG.oper at hd⊢;rw[um,oN];rw[oN]at hd;cases ho:ops[i]? with
       |none=>exact di.ended ..
       |some o=>
        rw[ho]at hd
        have OW:nk P S o.op=true:=by
         have h0:=ru o (Array.mem_of_getElem? ho);rw[Bool.or_eq_true]at h0;refine h0.resolve_right fun h3=>iF jS ⟨jS,o,ops,i,is,_,h2,ho,h3,?_⟩;rw[hyy];rw[ho]at kP;simpa using kP
        have EF:∀c,o.op≠ .defer c:=by
         intro c Gs;rw[Gs]at OW;simp[nk]at OW
        have key:∀(P:Program) (fr:Frame) (cs:List Frame) (w:World),(match fr.roundOf,o.op with
         |some l,.defer c=>stepG.apply P true fr cs none (do Instr.deferInRound l (<-resolve fr.eval c o.type);pure .skip) w
         |_,_=>stepG.apply P true fr cs none (execOp fr.eval o) w)=stepG.apply P true fr cs none (execOp fr.eval o) w:=by
         intro P fr cs w;split
         .rename_i hx;exact absurd hx (EF _)
         .rfl
        have XX:(gw (stepG.apply (ae P F) true f' (dn++aP) none (execOp f'.eval o) w')).drawn<=w'.drawn+m:=by
         rw[<-key (ae P F) f' (dn++aP) w'];exact hd
        have e1:=key P f (top++b::bs) w;have e2:=key (ae P F) f' (dn++aP) w';refine Eq.mpr (congr (congrArg (di P S H N p w w' b bs aP) e1) e2) ?_;exact di.apply hc hw hf hm (SR.execOp hw.no hc.gT hc.dC hc.mC ba o OW hw.no hw.no) XX
      .rename_i kP;rw[if_neg kP,if_neg kP];exact di.go hw (hf.top (gt.finish VR.undef) (dD f _))
end
section
variable {P:Program} {F:Array Func} {S:Nat->Bool} {H:FuncId->Code->Code->Prop} {N:Nat} {p:Pi} {w w':World} {b:Frame} {bs:List Frame} {aP:List Frame}
theorem ns {H:Code->Code->Prop} (h:TL P S H p l l'):∀d x r s k,l≠ .call d x r s::k/\l'≠ .call d x r s::k:=by
 intro d x r s k;cases h with
 |nil=>exact⟨by simp,by simp⟩
 |cons hi ht=>cases hi<;>exact⟨by simp,by simp⟩
theorem mD (h:∀d x r s k,f.todo≠ .call d x r s::k):f.catches P=false:=by
 unfold Frame.catches;split
 .rename_i hh;exact absurd hh (h _ _ _ _ _)
 .rfl
theorem di.unwind (hc:Closed P F S H) (hw:WR P S (KS P S) N p w w') {top:List Frame} (hf:FL P S H p (f::top) (f'::dn)) (main main':Bool) (hb:OU P S main' aP)
 (hm:kh m w w') (hd:(gw (Go.unwind (ae P F) main' f' (dn++aP) none w')).drawn<=w'.drawn+m):
 di P S H N p w w' b bs aP (Go.unwind P main f (top++b::bs) none w) (Go.unwind (ae P F) main' f' (dn++aP) none w'):=by
 have gt:=hf.head;have Gt:=gt.defers;generalize h1:f.defers=t at Gt;generalize h2:f'.defers=t' at Gt;unfold Go.unwind at hd⊢;rw[h1,h2];rw[h2]at hd;cases Gt with
 | @cons r r' l l' hr hl=>
   simp only[jw]at hd⊢
   refine di.run (SR.takeDeferred hr) hw hm (ev:=fun r es=>seen P f.fn es) (OS:=fun r es=>seen (ae P F) f'.fn es) (fun r es e he=>mem_seen he)
    (k:=fun r=>match r with|.ok calls w=>.go {frame:={f with defers:=calls++l},callers:=top++b::bs,status:=.running,dying:=none} w|.halt _ w=>.ended (.stuck "the deferred calls of a range-over-func loop have been taken" (f.pos P)) w)
    (k':=fun r=>match r with|.ok calls w=>.go {frame:={f' with defers:=calls++l'},callers:=dn++aP,status:=.running,dying:=none} w|.halt _ w=>.ended (.stuck "the deferred calls of a range-over-func loop have been taken" (f'.pos (ae P F))) w)
    hd ?_ ?_ ?_ ?_
   .intro r;cases r<;>exact Nat.le_refl _
   .intro x w1 _;exact⟨_,_,_,rfl⟩
   .intro c n w1 fP y y' qr hy _ _;obtain⟨rfl,rfl⟩:=hy;have hle:=eG p w.heap.size w'.heap.size c;exact di.go qr.rel ((hf.mono hle).top ((gt.mono hle).mk' (gt.todo.mono hle) (hl.mono hle) (.inr (gt.nd.resolve_left fun x=>by rw[h1]at x;cases x.1))) ⟨rfl,rfl⟩)
   .intro c n w1 fP v v' qr hv;exact di.ended ..
 |nil=>
  simp only at hd⊢;have jS:=gt.mode;generalize g1:f.mode=o at jS;generalize g2:f'.mode=o' at jS;rw[g2]at hd;cases jS with
  |run=>exact di.ended ..
  | @panicking l l' hl=>
    simp only;have n1:=mD (P:=P) (f:=f) fun d x r s k=>(ns gt.todo d x r s k).1;have n2:=mD (P:=ae P F) (f:=f') fun d x r s k=>(ns gt.todo d x r s k).2;simp only[n1,n2,Bool.false_eq_true,if_false];cases hf with
    |one h r=>exact di.raised hl ..
    |cons h t=>
     cases t with
     |one h r=>exact di.go hw (.one (h.raise hl) ⟨(iK _ _).1.trans r.1,by rw[(iK _ _).2];exact r.2⟩)
     |cons h t=>exact di.go hw (.cons (h.raise hl) t)
  |returning=>
   simp only at hd⊢;rw[<-gt.fn]at hd⊢;rcases hc.body f.fn gt.NA with⟨e1,e2⟩|⟨fn,kD,_,_,e1,e2,_,_,_,_,_,_,e3⟩
   .rw[e1,e2];exact di.doReturn hw hf main main' hb (gt.tmps.getD 0 VR.undef)
   .rw[e1,e2];rw[e2]at hd;simp only[jw]at hd⊢
    refine di.run (SR.results e3 gt.tmps) hw hm (ev:=fun r es=>seen P f.fn es) (OS:=fun r es=>seen (ae P F) f.fn es) (fun r es e he=>mem_seen he)
     (k:=fun r=>match r with|.ok v w=>Go.doReturn P main f (top++b::bs) none v w|.halt (.stuck s) w=>.ended (.stuck s (f.pos P)) w|.halt _ w=>.ended (.stuck "return: the result variables cannot be read" (f.pos P)) w)
     (k':=fun r=>match r with|.ok v w=>Go.doReturn (ae P F) main' f' (dn++aP) none v w|.halt (.stuck s) w=>.ended (.stuck s (f'.pos (ae P F))) w|.halt _ w=>.ended (.stuck "return: the result variables cannot be read" (f'.pos (ae P F))) w)
     hd ?_ ?_ ?_ ?_
    .intro r;cases r with
     |ok v w=>simp only;rw[kO _ _ _ gt.kg];exact Nat.le_refl _
     |halt x=>cases x<;>exact Nat.le_refl _
    .intro x w1 hx;cases x<;>exact⟨_,_,_,rfl⟩
    .intro c n w1 fP x y qr hv _ _;exact di.doReturn qr.rel (hf.mono (eG _ _ _ _)) main main' hb hv
    .intro c n w1 fP v v' qr hv;exact di.ended ..
theorem di.step (hc:Closed P F S H) (hw:WR P S (KS P S) N p w w') (hg:ii P S p) {top:List Frame} (hf:FL P S H p (f::top) (f'::dn)) (XW:∀c c' k k',f.mode=.run->f.todo=.code c::k->f'.todo=.code c'::k'->¬H f.fn c c') (iF:¬oM S f') (main main':Bool) (hb:OU P S main' aP)
 (hm:kh m w w') (hd:(gw (stepG (ae P F) main' {frame:=f',callers:=dn++aP,status:=.running,dying:=none} w')).drawn<=w'.drawn+m):
 di P S H N p w w' b bs aP (stepG P main {frame:=f,callers:=top++b::bs,status:=.running,dying:=none} w)
  (stepG (ae P F) main' {frame:=f',callers:=dn++aP,status:=.running,dying:=none} w'):=by
 have jS:=hf.head.mode
 have aZ:∀(P:Program) (main:Bool) (f:Frame) (cs:List Frame) (w:World),f.mode=.run->stepG P main {frame:=f,callers:=cs,status:=.running,dying:=none} w=stepG.exec P main true f cs none w:=by
  intro P main f cs w h;unfold stepG;simp only[h]
 have XY:∀(P:Program) (main:Bool) (f:Frame) (cs:List Frame) (w:World),f.mode≠ .run->stepG P main {frame:=f,callers:=cs,status:=.running,dying:=none} w=Go.unwind P main f cs none w:=by
  intro P main f cs w h;unfold stepG;simp only
 by_cases h:f.mode=.run
 .have h':f'.mode=.run:=by
   rw[h]at jS;generalize f'.mode=o at jS;cases jS;rfl
  rw[aZ _ _ _ _ _ h']at hd;rw[aZ _ _ _ _ _ h,aZ _ _ _ _ _ h'];exact di.exec hc hw hg hf (fun c c' k k'=>XW c c' k k' h) (fun _=>iF) h' main main' hb hm hd
 .have h':f'.mode≠ .run:=by
   intro e;rw[e]at jS;generalize hx:f.mode=o at jS;cases jS;exact h hx
  rw[XY _ _ _ _ _ h']at hd;rw[XY _ _ _ _ _ h,XY _ _ _ _ _ h'];exact di.unwind hc hw hf main main' hb hm hd
end
def new (w w1:World):Nat->Prop:=fun r=>w.heap.size<=r/\r<w1.heap.size
def aG (kn:Nat->Prop) (w w1:World):Nat->Prop:=fun r=>kn r\/new w w1 r
structure Env (kn:Nat->Prop) (w w2:World):Prop where
 size:w.heap.size<=w2.heap.size
 same:∀r,kn r->w2.heap[r]?=w.heap[r]?
 os:w2.os=w.os
 out:w2.output=w.output
theorem Env.refl (kn:Nat->Prop) (w:World):Env kn w w:=⟨Nat.le_refl _,fun _ _=>rfl,rfl,rfl⟩
theorem Env.trans {w:World} (h:Env kn w w1) (k:Env kn w1 w2):Env kn w w2:=
 ⟨Nat.le_trans h.1 k.1,fun r hr=>(k.2 r hr).trans (h.2 r hr),k.os.trans h.os,k.out.trans h.out⟩
def Dj (kn own:Nat->Prop) (e:Event):Prop:=
 e=noRoomEvent\/(e.sync=false/\∃r,kn r/\((∃a:Addr,e.loc=.cell a/\a.block=r)\/e.loc=.obj r)/\(e.write=true->own r))
structure Fair (kn own:Nat->Prop) (w w1:World) (es:Array Event):Prop where
 size:w.heap.size<=w1.heap.size
 others:∀r,r<w.heap.size->¬own r->w1.heap[r]?=w.heap[r]?
 os:w1.os=w.os
 out:w1.output=w.output
 tape:w1.tape=w.tape
 drawn:w.drawn<=w1.drawn
 ev:∀e∈es,Dj (aG kn w w1) (aG own w w1) e
abbrev gX (f:Frame) (cs:List Frame):Goroutine:={frame:=f,callers:=cs,status:=.running,dying:=none}
abbrev nt:=(Nat->Prop)->(Nat->Prop)->Value->World->Prop
abbrev kz:=(Nat->Prop)->(Nat->Prop)->Frame->World->Prop
abbrev dE:=(Nat->Prop)->(Nat->Prop)->Frame->World->Value->World->(Nat->Prop)->(Nat->Prop)->Prop
abbrev RK:=(Nat->Prop)->(Nat->Prop)->Frame->List Frame->World->Prop
def Body (Q:Program) (main:Bool) (base:List Frame) (Fin:nt) (HA:kz) (HP:dE) (I:RK):RK:=fun kn own f top w=>
 ∀w2,Env kn w w2->
  (∃w3 es f2 nu,stepG Q main (gX f (top++base)) w2=.go (gX f2 (nu++base)) w3 es/\Fair kn own w2 w3 es/\I (aG kn w2 w3) (aG own w2 w3) f2 nu w3)\/
  (∃w3 es v b bs,base=b::bs/\stepG Q main (gX f (top++base)) w2=.go (gX (b.finish v) bs) w3 es/\Fair kn own w2 w3 es/\Fin (aG kn w2 w3) (aG own w2 w3) v w3)\/
  (∃w3 es v,base=[]/\stepG Q main (gX f (top++base)) w2=.ended (.done v) w3 es/\Fair kn own w2 w3 es/\Fin (aG kn w2 w3) (aG own w2 w3) v w3)\/
  (HA kn own f w2/\∃c rest,top=c::rest/\∀v w3 et br,HP kn own f w2 v w3 et br->I et br (c.finish v) rest w3)
def CT (Q:Program) (main:Bool) (base:List Frame) (Fin:nt) (HA:kz) (HP:dE):RK:=fun kn own f top w=>
 ∀I:RK,(∀kn own f top w,Body Q main base Fin HA HP I kn own f top w->I kn own f top w)->I kn own f top w
section
variable {Q:Program} {main:Bool} {base:List Frame} {Fin:nt} {HA:kz} {HP:dE}
theorem Body.mono {I J:RK} (h:∀kn own f top w,I kn own f top w->J kn own f top w) {top:List Frame} {w:World} (x:Body Q main base Fin HA HP I kn own f top w):Body Q main base Fin HA HP J kn own f top w:=by
 intro w2 he;rcases x w2 he with⟨w3,es,f2,nu,h1,h2,h3⟩|x|x|⟨h1,c,rest,hc,h2⟩
 .exact .inl ⟨w3,es,f2,nu,h1,h2,h _ _ _ _ _ h3⟩
 .exact .inr (.inl x)
 .exact .inr (.inr (.inl x))
 .exact .inr (.inr (.inr ⟨h1,c,rest,hc,fun v w3 et br hp=>h _ _ _ _ _ (h2 v w3 et br hp)⟩))
theorem CT.mk {kn own:Nat->Prop} {f:Frame} {top:List Frame} {w:World} (h:Body Q main base Fin HA HP (CT Q main base Fin HA HP) kn own f top w):CT Q main base Fin HA HP kn own f top w:=
 fun I hI=>hI _ _ _ _ _ (h.mono fun _ _ _ _ _ x=>x I hI)
theorem CT.ind {I:RK} (hI:∀kn own f top w,Body Q main base Fin HA HP (fun kn own f top w=>I kn own f top w/\CT Q main base Fin HA HP kn own f top w) kn own f top w->I kn own f top w)
 {top:List Frame} {w:World} (h:CT Q main base Fin HA HP kn own f top w):I kn own f top w:=
 (h (fun kn own f top w=>I kn own f top w/\CT Q main base Fin HA HP kn own f top w) fun _ _ _ _ _ x=>⟨hI _ _ _ _ _ x,CT.mk (x.mono fun _ _ _ _ _ y=>y.2)⟩).1
end
def jx (p:Pi):Nat->Prop:=fun r'=>∃r,p r r'
def bT (N:Nat) (p:Pi):Nat->Prop:=fun r'=>∃r,p r r'/\N<=r
theorem Li (p:Pi) (L C c:Nat):jx (ext p L C c)=fun r'=>jx p r'\/(C<=r'/\r'<C+c):=by
 funext r';apply propext;constructor
 .rintro⟨r,h|⟨k,hk,h1,h2⟩⟩
  .exact .inl ⟨r,h⟩
  .exact .inr ⟨by omega,by omega⟩
 .rintro(⟨r,h⟩|⟨h1,h2⟩)
  .exact⟨r,.inl h⟩
  .exact⟨L+(r'-C),.inr ⟨r'-C,by omega,rfl,by omega⟩⟩
theorem EH {N:Nat} (p:Pi) {L:Nat} (hN:N<=L) (C c:Nat):bT N (ext p L C c)=fun r'=>bT N p r'\/(C<=r'/\r'<C+c):=by
 funext r';apply propext;constructor
 .rintro⟨r,h|⟨k,hk,h1,h2⟩,hr⟩
  .exact .inl ⟨r,h,hr⟩
  .exact .inr ⟨by omega,by omega⟩
 .rintro(⟨r,h,hr⟩|⟨h1,h2⟩)
  .exact⟨r,.inl h,hr⟩
  .exact⟨L+(r'-C),.inr ⟨r'-C,by omega,rfl,by omega⟩,by omega⟩
section
variable {P:Program} {S:Nat->Bool} {N:Nat} {p:Pi}
theorem WR.env {w:World} (h:WR P S (KS P S) N p lw w) (he:Env (jx p) w w2):WR P S (KS P S) N p lw w2:=
 ⟨h.inj,fun r r' hr=>by
   obtain⟨o,o',h1,h2,h3⟩:=h.blk r r' hr;exact⟨o,o',h1,(he.2 r' ⟨r,hr⟩).trans h2,h3⟩,h.low,h.fix,h.fv,Nat.le_trans h.jr he.1,h.str,h.tz⟩
theorem WR.tape {w:World} (h:WR P S (KS P S) N p lw w) (T:Nat->Question->Nat) (d:Nat):WR P S (KS P S) N p {lw with tape:=T,drawn:=d} w:=
 ⟨h.inj,h.blk,h.low,h.fix,h.fv,h.jr,h.str,h.tz⟩
theorem cq.fair {w Wo:World} (hw:WR P S (KS P S) N p lw w) (h:cq P S (KS P S) N p lw w c n Wo w1) (he:∀e∈es,Ki N (ext p lw.heap.size w.heap.size c) e):
 Fair (jx p) (bT N p) w w1 es/\jx (ext p lw.heap.size w.heap.size c)=aG (jx p) w w1/\bT N (ext p lw.heap.size w.heap.size c)=aG (bT N p) w w1:=by
 have e1:jx (ext p lw.heap.size w.heap.size c)=aG (jx p) w w1:=by
  rw[Li];unfold aG new;rw[h.kG]
 have e2:bT N (ext p lw.heap.size w.heap.size c)=aG (bT N p) w w1:=by
  rw[EH p hw.low];unfold aG new;rw[h.kG]
 refine⟨⟨by rw[h.kG];omega,fun r hr hn=>h.others r hr fun s hs=>?_,h.XF,h.OH,h.Dc,by rw[h.kH];omega,fun e hx=>?_⟩,e1,e2⟩
 .rcases Nat.lt_or_ge s N with az|vB
  .exact az
  .exact absurd ⟨s,hs,vB⟩ hn
 .rw[<-e1,<-e2];rcases he e hx with h0|⟨h1,r,r',h2,h3,h4⟩
  .exact .inl h0
  .exact .inr ⟨h1,r',⟨r,h2⟩,h3,fun ye=>⟨r,h2,h4 ye⟩⟩
end
def Base (P:Program):Frame:={fn:=P.funcs.size,tmps:=#[],todo:=[.extern "" #[],.code (.refuse "")],defers:=[⟨.nil,#[]⟩],mode:=.run,kind:=.normal}
theorem dA (P:Program) (v:Value):(Base P).finish v={fn:=P.funcs.size,tmps:=#[v],todo:=[.code (.refuse "")],defers:=[⟨.nil,#[]⟩],mode:=.run,kind:=.normal}:=rfl
theorem fR (P:Program) (v:Value) (w:World):∃o w1,step P (lone ((Base P).finish v) [] w)=.ended o w1:=⟨_,_,step_lone_ended (by rw[dA];rfl)⟩
theorem eR (P:Program) (ch:List PanicEntry) (w:World):∃o w1,step P (lone ((Base P).raise ch) [] w)=.ended o w1:=⟨_,_,step_lone_ended (by rfl)⟩
theorem eL {cs ds:List Frame} {w v:World} (h:lone f cs w=lone g ds v):f=g/\cs=ds/\w=v:=by
 have h1:(lone f cs w).gs[0]! =(lone g ds v).gs[0]!:=by rw[h]
 have h2:(lone f cs w).world=(lone g ds v).world:=by rw[h]
 have h3:(gX f cs)=(gX g ds):=h1;simp only[Goroutine.mk.injEq]at h3;exact⟨h3.1,h3.2.1,h2⟩
def Alike (w w':World):Prop:=∀r:Nat,w'.heap[r]?=w.heap[r]? \/((∃d,w.heap[r]?=some (Obj.deferred d))/\∃d,w'.heap[r]?=some (Obj.deferred d))
theorem Alike.refl (w:World):Alike w w:=fun _=>.inl rfl
theorem Alike.trans {a b c:World} (h:Alike a b) (k:Alike b c):Alike a c:=fun r=>by
 rcases k r with k|⟨⟨d,k1⟩,k2⟩
 .rcases h r with h|⟨h1,d,h2⟩
  .exact .inl (k.trans h)
  .exact .inr ⟨h1,d,k.trans h2⟩
 .rcases h r with h|⟨h1,_⟩
  .exact .inr ⟨⟨d,h▸k1⟩,k2⟩
  .exact .inr ⟨h1,k2⟩
theorem rA (P:Program) (n:Nat) (m m1:Machine) (h:runN P n m=.next m1):runN P (n+1) m=step P m1:=by
 rw[runN_add,h];simp only[runN];split<;>simp_all
section
variable {P:Program} {S:Nat->Bool} {H:FuncId->Code->Code->Prop} {N:Nat} {p:Pi}
def FD (P:Program) (S:Nat->Bool) (H:FuncId->Code->Code->Prop) (p:Pi) (g:Frame):Prop:=(∃d,DL p g.defers d)/\∀d x r s k,g.todo≠ .call d x r s::k
theorem FL.fd {l l':List Frame} (h:FL P S H p l l'):∀g∈l,FD P S H p g:=by
 induction h with
 |one h r=>intro g hg;obtain rfl:g=_:=by simpa using hg
           exact⟨⟨_,h.defers⟩,fun d x r s k=>(ns h.todo d x r s k).1⟩
 |cons h t ih=>
  intro g hg;rcases List.mem_cons.1 hg with rfl|hg
  .exact⟨⟨_,h.defers⟩,fun d x r s k=>(ns h.todo d x r s k).1⟩
  .exact ih g hg
theorem vJ (g:Frame) (ch:List PanicEntry):(g.raise ch).defers=g.defers/\(g.raise ch).todo=g.todo:=by
 unfold Frame.raise;split<;>exact⟨rfl,rfl⟩
theorem raise_mode (g:Frame) {ch:List PanicEntry} {e:PanicEntry} (h:ch.head?=some e):∃Dk,(g.raise ch).mode=.panicking Dk/\Dk.head?=some e:=by
 unfold Frame.raise;split
 .refine⟨_,rfl,?_⟩;cases ch with
  |nil=>cases h
  |cons x l=>exact h
 .exact⟨_,rfl,h⟩
theorem rB:∀(n:Nat) (h:Frame) (hs:List Frame) (v w2:World) (ch:List PanicEntry) (e0:PanicEntry),h.mode=.panicking ch->ch.head?=some e0->FD P S H p h->(∀g∈hs,FD P S H p g)->
 WR P S (KS P S) N p v w2->∀(fr:Frame) (w1:World),runN P n (lone h (hs++[Base P]) v)=.next (lone fr [Base P] w1)->
 ((∃x,fr.leaving P w1 (.returned x))\/∃Dk,fr.leaving P w1 (.panicked Dk))->∃Dk,fr.mode=.panicking Dk/\Dk.head?=some e0/\Alike v w1:=by
 intro n;induction n with
 |zero=>
  intro h hs v w2 ch e0 hm he hd Gt hw fr w1 hr hl;simp only[runN,Stepped.next.injEq]at hr;obtain⟨rfl,_,rfl⟩:=eL hr;exact⟨ch,hm,he,Alike.refl _⟩
 |succ n ih=>
  intro h hs v w2 ch e0 hm he hd Gt hw fr w1 hr hl;obtain⟨⟨d',hdl⟩,EI⟩:=hd
  have bL:stepG P true {frame:=h,callers:=hs++[Base P],status:=.running,dying:=none} v=Go.unwind P true h (hs++[Base P]) none v:=by
   unfold stepG;simp only[hm]
  generalize hdd:h.defers=ds at hdl;cases hdl with
  | @cons r r' l l' hrr Wp=>
    obtain⟨o,o',ho,Gu,hc⟩:=hw.blk r r' hrr
    have rC:(∃x,(Instr.takeDeferred r).run P v=.halt x v)->False:=by
     rintro⟨x,hx⟩
     have:step P (lone h (hs++[Base P]) v)=.ended _ _:=step_lone_ended (by
      rw[bL];unfold Go.unwind;simp only[hdd,Sem.runT_eq,hx,GStep.bare_after];rfl)
     simp only[runN,this]at hr;cases hr
    have GP:(∀d,o≠ .deferred (some d))->False:=fun hn=>rC (by
     simp only[Instr.takeDeferred,getObj,bind,Sem.bind,Sem.run,ho];cases o<;>first|exact⟨_,rfl⟩|(rename_i d;cases d<;>first|exact⟨_,rfl⟩|exact absurd rfl (hn _)))
    rcases hc with⟨_,c,c',el,fz,rfl,rfl,_⟩|⟨hN,qk⟩
    .exact(GP fun d h=>by cases h).elim
    .cases qk with
     |dQ=>
      have aZ:(Instr.takeDeferred r).run P v=.ok [] {v with heap:=v.heap.setIfInBounds r (.deferred none)}:=by
       simp[Instr.takeDeferred,getObj,setObj,bind,Sem.bind,Sem.run,ho,pure]
      have bP:step P (lone h (hs++[Base P]) v)=.next (lone {h with defers:=[]++l} (hs++[Base P]) {v with heap:=v.heap.setIfInBounds r (.deferred none)}):=step_lone_go (by
       rw[bL];unfold Go.unwind;simp only[hdd,Sem.runT_eq,aZ,GStep.bare_after];rfl)
      simp only[runN,bP]at hr;obtain⟨Dk,k1,k2,k3⟩:=ih {h with defers:=[]++l} hs _ {w2 with heap:=w2.heap.setIfInBounds r' (.deferred none)} ch e0 hm he ⟨⟨_,Wp⟩,EI⟩ Gt (hw.setObj hrr .dP hN) fr w1 hr hl;refine⟨Dk,k1,k2,Alike.trans (fun s=>?_) k3⟩;by_cases hs:r=s
      .subst hs;have az:=(Array.getElem?_eq_some_iff.1 ho).1;exact .inr ⟨⟨_,ho⟩,none,by simp[az]⟩
      .exact .inl (by simp[hs])
     |_=>exact(GP fun d h=>by cases h).elim
  |nil=>
   have S0:h.catches P=false:=mD EI;cases hs with
   |nil=>
    exfalso
    have bP:step P (lone h ([]++[Base P]) v)=.next (lone ((Base P).raise ch) [] v):=step_lone_go (by
     rw[bL];unfold Go.unwind;simp only[hdd,hm,S0,Bool.false_eq_true,if_false];rfl)
    simp only[runN,bP]at hr;obtain⟨o,w5,Wq⟩:=eR P ch v;cases n with
    |zero=>
     simp only[runN,Stepped.next.injEq]at hr;have:=(eL hr).2.1;simp at this
    |succ n=>simp only[runN,Wq]at hr;cases hr
   |cons g2 mh=>
    have bP:step P (lone h (g2::mh++[Base P]) v)=.next (lone (g2.raise ch) (mh++[Base P]) v):=step_lone_go (by
     rw[bL];unfold Go.unwind;simp only[hdd,hm,S0,Bool.false_eq_true,if_false];rfl)
    simp only[runN,bP]at hr;obtain⟨ch3,m1,m2⟩:=raise_mode g2 he;obtain⟨XX,XZ⟩:=Gt g2 (by simp);have S3:=vJ g2 ch;exact ih (g2.raise ch) mh v w2 ch3 e0 m1 m2 ⟨by rw[S3.1];exact XX,by rw[S3.2];exact XZ⟩ (fun g hg=>Gt g (by simp[hg])) hw fr w1 hr hl
end
def Wr (P:Program) (lf:Frame) (rD:List Frame) (lw:World) (R:Value->World->Prop) (C:Value->World->Prop):Prop:=
 ∀T,∃n fr w1,runN P n (lone lf (rD++[Base P]) {lw with tape:=T})=.next (lone fr [Base P] w1)/\
  ((∃v,fr.leaving P w1 (.returned v)/\R v w1)\/(∃e ch,fr.leaving P w1 (.panicked (e::ch))/\C e.v w1/\∀(S:Nat->Bool) (q:Pi) v',S (P.funcs.size+P.globals.size)=false->¬VR S q e.v v'))
def rE (P:Program) (S:Nat->Bool) (N:Nat) (p:Pi) (R:Value->World->Prop) (kn own:Nat->Prop) (v':Value) (w':World):Prop:=
 ∃q v w1,R v w1/\VR S q v v'/\WR P S (KS P S) N q w1 w'/\Le p q/\kn=jx q/\own=bT N q
def fS (m:Nat->Nat) (d:Nat):Nat->Nat
 |0=>d
 |k+1=>fS m d k+m k
theorem oO (m:Nat->Nat) (d:Nat) {k j:Nat} (h:k<=j):fS m d k<=fS m d j:=by
 induction h with
 |refl=>exact Nat.le_refl _
 |step _ ih=>simp only[fS];omega
open Classical in
theorem splice [Inhabited α] (m:Nat->Nat) (a:Nat->Nat->α) (d:Nat):∃T:Nat->α,∀k j,j<m k->T (fS m d k+j)=a k j:=by
 refine⟨fun i=>if h:∃k,fS m d k<=i/\i<fS m d (k+1)then a h.choose (i-fS m d h.choose)else default,fun k j hj=>?_⟩;have h:∃k',fS m d k'<=fS m d k+j/\fS m d k+j<fS m d (k'+1):=⟨k,by omega,by simp only[fS];omega⟩
 simp only[dif_pos h];obtain⟨c,hc,fM⟩:∃c,(fS m d c<=fS m d k+j/\fS m d k+j<fS m d (c+1))/\h.choose=c:=⟨h.choose,h.choose_spec,rfl⟩
 rw[fM]
 have e:c=k:=by
  rcases Nat.lt_trichotomy c k with az|heq|uo
  .have:=oO m d (show c+1<=k by omega);omega
  .exact heq
  .have:=oO m d (show k+1<=c by omega);simp only[fS]at this;omega
 subst e;congr 1;omega
def Kl (H:FuncId->Code->Code->Prop) (lf f:Frame):Prop:=lf.mode=.run/\f.mode=.run/\∃c c' k k',lf.todo=.code c::k/\f.todo=.code c'::k'/\H f.fn c c'
def GQ (H:FuncId->Code->Code->Prop) (f:Frame):Prop:=f.mode=.run/\∃c c' k',f.todo=.code c'::k'/\H f.fn c c'
structure rF (P:Program) (S:Nat->Bool) (H:FuncId->Code->Code->Prop) (N:Nat) (HA:kz) (HP:dE) (C:Value->World->Prop)where
 a0:Question->Nat
 m1:Nat
 Ws:Value->World->Nat->Question->Nat
 ln:Nat
 q3:Pi->Nat->Frame->World->Value->World->Pi
 val:Frame->Value
 only:∀fn c c' c0,H fn c c'->CR P S (H fn) c0 c'->H fn c0 c'\/∃w,c0=.refuse w
 marked:S (P.funcs.size+P.globals.size)=false
 bare:∀o,fw S o=false
 AZ:∀v w w',Alike w w'->C v w'->C v w
 check:∀p lf f v cs,ky P S H p lf f->Kl H lf f->(∀q,v.tape v.drawn q=a0 q)->∃n g1 v1 e,runN P n (lone lf cs v)=.next (lone g1 cs v1)/\g1.mode=.panicking [e]/\e.v=val lf/\
  FD P S H p g1/\v1.heap=v.heap
 ha:∀p lf f v w2,ky P S H p lf f->Kl H lf f->WR P S (KS P S) N p v w2->C (val lf) v->HA (jx p) (bT N p) f w2
 pass:∀p lf f v w2 lc cs u' w3 et br,ky P S H p lf f->Kl H lf f->WR P S (KS P S) N p v w2->HP (jx p) (bT N p) f w2 u' w3 et br->(∀i,i<m1->∀q,v.tape (v.drawn+i) q=Ws u' w3 i q)->
  ∃n u v1,1<=n/\runN P n (lone lf (lc::cs) v)=.next (lone (lc.finish u) cs v1)/\VR S (q3 p v.heap.size f w2 u' w3) u u'/\WR P S (KS P S) N (q3 p v.heap.size f w2 u' w3) v1 w3/\
   Le p (q3 p v.heap.size f w2 u' w3)/\et=jx (q3 p v.heap.size f w2 u' w3)/\br=bT N (q3 p v.heap.size f w2 u' w3)/\v1.tape=v.tape/\v1.drawn=v.drawn+m1/\v1.heap.size=v.heap.size+ln
structure Nd where
 p:Pi
 L:Nat
 f:Frame
 top:List Frame
 w:World
section
variable (Q:Program) (S:Nat->Bool) (H:FuncId->Code->Code->Prop) (N:Nat) (main:Bool) (base:List Frame) (Fin:nt) (HA:kz) (HP:dE)
def Nd.ct (x:Nd):Prop:=CT Q main base Fin HA HP (jx x.p) (bT N x.p) x.f x.top x.w
def Nd.step (x:Nd) (w2:World):GStep:=stepG Q main (gX x.f (x.top++base)) w2
def Nd.bad (x:Nd) (w2:World):Prop:=
 Env (jx x.p) x.w w2/\
 ¬((∃w3 es f2 nu,x.step Q main base w2=.go (gX f2 (nu++base)) w3 es/\Fair (jx x.p) (bT N x.p) w2 w3 es/\CT Q main base Fin HA HP (aG (jx x.p) w2 w3) (aG (bT N x.p) w2 w3) f2 nu w3)\/
  (∃w3 es v b bs,base=b::bs/\x.step Q main base w2=.go (gX (b.finish v) bs) w3 es/\Fair (jx x.p) (bT N x.p) w2 w3 es/\Fin (aG (jx x.p) w2 w3) (aG (bT N x.p) w2 w3) v w3)\/
  (∃w3 es v,base=[]/\x.step Q main base w2=.ended (.done v) w3 es/\Fair (jx x.p) (bT N x.p) w2 w3 es/\Fin (aG (jx x.p) w2 w3) (aG (bT N x.p) w2 w3) v w3)\/
  (HA (jx x.p) (bT N x.p) x.f w2/\∃c rest,x.top=c::rest/\∀v w3 et br,HP (jx x.p) (bT N x.p) x.f w2 v w3 et br->CT Q main base Fin HA HP et br (c.finish v) rest w3))
theorem Nd.OX (x:Nd) (h:¬x.ct Q N main base Fin HA HP):∃w2,x.bad Q N main base Fin HA HP w2:=by
 refine Classical.byContradiction fun hn=>h (CT.mk fun w2 he=>?_);exact Classical.byContradiction fun hx=>hn ⟨w2,he,hx⟩
def Nd.out (x:Nd) (w2:World) (o:Value×World):Prop:=
 ∃c rest et br,x.top=c::rest/\HP (jx x.p) (bT N x.p) x.f w2 o.1 o.2 et br/\¬CT Q main base Fin HA HP et br (c.finish o.1) rest o.2
open Classical in
noncomputable def Nd.pick (x:Nd):World:=if h:∃w2,x.bad Q N main base Fin HA HP w2 then h.choose else x.w
theorem Nd.uq (x:Nd) (h:¬x.ct Q N main base Fin HA HP):x.bad Q N main base Fin HA HP (x.pick Q N main base Fin HA HP):=by
 have:=x.OX Q N main base Fin HA HP h;unfold Nd.pick;rw[dif_pos this];exact this.choose_spec
open Classical in
noncomputable def Nd.eS (x:Nd):Value×World:=
 if h:∃o,x.out Q N main base Fin HA HP (x.pick Q N main base Fin HA HP) o then h.choose else(undef,x.w)
theorem Nd.vK (x:Nd) (h:∃o,x.out Q N main base Fin HA HP (x.pick Q N main base Fin HA HP) o):x.out Q N main base Fin HA HP (x.pick Q N main base Fin HA HP) (x.eS Q N main base Fin HA HP):=by
 unfold Nd.eS;rw[dif_pos h];exact h.choose_spec
end
section
variable {P:Program} (Q:Program) {S:Nat->Bool} {H:FuncId->Code->Code->Prop} {N:Nat} (main:Bool) (base:List Frame) (Fin:nt) {HA:kz} {HP:dE} {C:Value->World->Prop} (hl:rF P S H N HA HP C)
open Classical in
noncomputable def Nd.nx (x:Nd):Nd:=
 if GQ H x.f then
  match x.top with
  |c::rest=>⟨hl.q3 x.p x.L x.f (x.pick Q N main base Fin HA HP) (x.eS Q N main base Fin HA HP).1 (x.eS Q N main base Fin HA HP).2,x.L+hl.ln,c.finish (x.eS Q N main base Fin HA HP).1,rest,(x.eS Q N main base Fin HA HP).2⟩
  | []=>x
 else match x.step Q main base (x.pick Q N main base Fin HA HP)with
 |.go g w3 _=>⟨ext x.p x.L (x.pick Q N main base Fin HA HP).heap.size (w3.heap.size-(x.pick Q N main base Fin HA HP).heap.size),x.L+(w3.heap.size-(x.pick Q N main base Fin HA HP).heap.size),
    g.frame,g.callers.take (g.callers.length-base.length),w3⟩
 |_=>x
noncomputable def Nd.path (x:Nd):Nat->Nd
 |0=>x
 |k+1=>(Nd.path x k).nx Q main base Fin hl
open Classical in
noncomputable def Nd.cnt (x:Nd):Nat:=
 if GQ H x.f then hl.m1 else(gw (x.step Q main base (x.pick Q N main base Fin HA HP))).drawn-(x.pick Q N main base Fin HA HP).drawn
open Classical in
noncomputable def Nd.piece (x:Nd) (i:Nat):Question->Nat:=
 if GQ H x.f then hl.Ws (x.eS Q N main base Fin HA HP).1 (x.eS Q N main base Fin HA HP).2 i else(x.pick Q N main base Fin HA HP).tape ((x.pick Q N main base Fin HA HP).drawn+i)
end
instance : Inhabited (Question -> Nat) := ⟨fun _ => 0⟩
def Ends (P:Program) (fr:Frame) (w1:World):Prop:=(∃v,fr.leaving P w1 (.returned v))\/∃ch,fr.leaving P w1 (.panicked ch)
theorem Ends.after {P:Program} (h:Ends P fr w1):∃b,step P (lone fr [Base P] w1)=.next (lone b [] w1)/\∃o w2,step P (lone b [] w1)=.ended o w2:=by
 rcases h with⟨v,h⟩|⟨ch,h⟩
 .exact⟨_,step_leave_returned h,fR P v w1⟩
 .exact⟨_,step_leave_panicked h,eR P ch w1⟩
theorem before {P:Program} {m0:Machine} (h:runN P n m0=.next (lone fr [Base P] w1)) (he:Ends P fr w1) {ν:Nat} {gs:List Frame} {v:World}
 (hv:runN P ν m0=.next (lone g (gs++[Base P]) v)):ν<=n/\runN P (n-ν) (lone g (gs++[Base P]) v)=.next (lone fr [Base P] w1):=by
 obtain⟨b,h1,o,w2,h2⟩:=he.after
 have hle:ν<=n:=by
  rcases Nat.lt_or_ge n ν with az|vB
  .exfalso;obtain⟨j,rfl⟩:∃j,ν=(n+1)+j:=⟨ν-(n+1),by omega⟩
   rw[runN_add,rA P n _ _ h,h1]at hv;cases j with
   |zero=>
    simp only[runN,Stepped.next.injEq]at hv;have:=(eL hv).2.1;simp at this
   |succ j=>simp only[runN,h2]at hv;cases hv
  .exact vB
 refine⟨hle,?_⟩;have:n=ν+(n-ν):=by omega
 rw[this,runN_add,hv]at h;exact h
theorem vL {P:Program} {b:Frame} {v1:World} (h:runN P r σ=.next (lone fr [Base P] w1)) (hs:step P σ=.next (lone b [] v1)) (hb:∃o w2,step P (lone b [] v1)=.ended o w2):r=0/\σ=lone fr [Base P] w1:=by
 obtain⟨o,w2,hb⟩:=hb;cases r with
 |zero=>simp only[runN,Stepped.next.injEq]at h;exact⟨rfl,h⟩
 |succ r=>
  exfalso;simp only[runN,hs]at h;cases r with
  |zero=>
   simp only[runN,Stepped.next.injEq]at h;have:=(eL h).2.1;simp at this
  |succ r=>simp only[runN,hb]at h;cases h
theorem vM {P:Program} {o:Outcome} (h:runN P r σ=.next (lone fr [Base P] w1)) (he:Ends P fr w1) (hs:step P σ=.ended o w2):False:=by
 cases r with
 |zero=>
  simp only[runN,Stepped.next.injEq]at h;obtain⟨b,h1,_⟩:=he.after;rw[h,h1]at hs;cases hs
 |succ r=>simp only[runN,hs]at h;cases h
theorem FL.above {P:Program} {S:Nat->Bool} {H:FuncId->Code->Code->Prop} {p:Pi} (h:FL P S H p (f::t) (f'::t')) {c c':Code} (hh:H f'.fn c c'):∃g g' r r',t=g::r/\t'=g'::r'/\FL P S H p (g::r) (g'::r'):=by
 cases h with
 |one h r=>exact absurd (h.fn▸hh) (r.2 c c')
 |cons h k=>
  cases k with
  |one h r=>exact⟨_,_,_,_,rfl,rfl,.one h r⟩
  |cons h t=>exact⟨_,_,_,_,rfl,rfl,.cons h t⟩
section
variable {P:Program} {F:Array Func} {S:Nat->Bool} {H:FuncId->Code->Code->Prop} {N:Nat} {HA:kz} {HP:dE} {C:Value->World->Prop}
theorem GR {p:Pi} (hl:rF P S H N HA HP C) (hf:FL P S H p (f::t) (f'::t')) (hh:GQ H f'):Kl H f f'\/∃w k,f.todo=.code (.refuse w)::k/\f.mode=.run:=by
 obtain⟨hm,c,c',k',ht,hH⟩:=hh;have jS:=hf.head.mode;rw[hm]at jS;have aZ:f.mode=.run:=by generalize f.mode=o at jS;cases jS;rfl
 have EI:=hf.head.todo;rw[ht]at EI
 have key:∀x,f.todo=x->TL P S (H f.fn) p x (.code c'::k')->Kl H f f'\/∃w k,f.todo=.code (.refuse w)::k/\f.mode=.run:=by
  intro x hx EI;cases EI with
  |cons hi EI=>
   cases hi with
   | @code c0 _ NC=>
     rcases hl.only _ c c' c0 hH (hf.head.fn▸NC)with h|⟨w,h⟩
     .exact .inl ⟨aZ,hm,c0,c',_,k',hx,ht,h⟩
     .rw[h]at hx;exact .inr ⟨w,_,hx,aZ⟩
 exact key _ rfl EI
theorem ur {p:Pi} (hc:Closed P F S H) (hg:ii P S p) {lf:Frame} {rD top:List Frame} {w:World} (hw:WR P S (KS P S) N p lw w)
 (hf:FL P S H p (lf::rD) (f::top)) {R:Value->World->Prop} (hl:rF P S H N HA HP C) (EJ:Wr P lf rD lw R C) (main:Bool) (base:List Frame) (hb:OU P S main base):
 CT (ae P F) main base (rE P S N p R) HA HP (jx p) (bT N p) f top w:=by
 refine Classical.byContradiction fun X6=>?_;let Fin:=rE P S N p R
 let x0:Nd:=⟨p,lw.heap.size,f,top,w⟩
 have xy:¬x0.ct (ae P F) N main base Fin HA HP:=X6;let X:=fun k=>Nd.path (ae P F) main base Fin hl x0 k
 let pk:=fun k=>(X k).pick (ae P F) N main base Fin HA HP
 let m:=fun k=>(X k).cnt (ae P F) main base Fin hl
 let D:=fun k=>fS m lw.drawn k
 let start:=fun T:Nat->Question->Nat=>lone lf (rD++[Base P]) {lw with tape:=T}
 have inv:∀k (T:Nat->Question->Nat),(∀j,j<k->∀i,i<m j->T (D j+i)=(X j).piece (ae P F) main base Fin hl i)->∃ν g gs v,k<=ν/\runN P ν (start T)=.next (lone g (gs++[Base P]) v)/\WR P S (KS P S) N (X k).p v (X k).w/\
  FL P S H (X k).p (g::gs) ((X k).f::(X k).top)/\ii P S (X k).p/\v.tape=T/\v.drawn=D k/\v.heap.size=(X k).L/\(¬(X k).ct (ae P F) N main base Fin HA HP)/\Le p (X k).p:=by
  intro k;induction k with
  |zero=>intro T _;exact⟨0,lf,rD,{lw with tape:=T},Nat.le_refl _,rfl,hw.tape T lw.drawn,hf,hg,rfl,rfl,rfl,xy,Le.refl p⟩
  |succ k ih=>
   intro T hT;obtain⟨ν,g,gs,v,e0,e1,e2,e3,e4,e5,e6,e7,e8,e9⟩:=ih T fun j hj i hi=>hT j (by omega) i hi;obtain⟨vN,rC⟩:=(X k).uq (ae P F) N main base Fin HA HP e8;have xA:WR P S (KS P S) N (X k).p v (pk k):=e2.env vN;obtain⟨n,fr,w1,c1,c2⟩:=EJ T
   have mi:Ends P fr w1:=by
    rcases c2 with⟨rv,h,_⟩|⟨e,ch,h,_⟩
    .exact .inl ⟨rv,h⟩
    .exact .inr ⟨_,h⟩
   obtain⟨hle,pM⟩:=before c1 mi e1;by_cases kQ:GQ H (X k).f
   ·
    rcases GR hl e3 kQ with hh|⟨ws,kk,X7,X8⟩
    .have tG:m k=hl.m1:=by show Nd.cnt _ _ _ _ hl (X k)=_;unfold Nd.cnt;rw[if_pos kQ]
     obtain⟨lc,fc,yf,rest,hgs,qs,AF⟩:∃lc fc yf rest,gs=lc::yf/\(X k).top=fc::rest/\FL P S H (X k).p (lc::yf) (fc::rest):=by
      obtain⟨_,_,c,c',_,_,_,_,hH⟩:=hh;obtain⟨lc,fc,lr,r,h1,h2,h3⟩:=e3.above hH;exact⟨lc,fc,lr,r,h1,h2,h3⟩
     have rG:HA (jx (X k).p) (bT N (X k).p) (X k).f (pk k):=by
      let T2:Nat->Question->Nat:=fun i=>if i<D k then T i else hl.a0
      have hT2:∀j,j<k->∀i,i<m j->T2 (D j+i)=(X j).piece (ae P F) main base Fin hl i:=fun j hj i hi=>by
       have h1:=oO m lw.drawn (show j+1<=k by omega);simp only[fS]at h1;have:D j+i<D k:=by show fS m lw.drawn j+i<fS m lw.drawn k;omega
       show(if D j+i<D k then T (D j+i)else hl.a0)=_;rw[if_pos this];exact hT j (by omega) i hi
      obtain⟨ν2,g2,ND,v2,_,f1,f2,f3,_,f5,f6,_,_,_⟩:=ih T2 hT2;have Wt:Kl H g2 (X k).f\/_:=GR hl f3 kQ;obtain⟨n2,fr2,w3,d1,d2⟩:=EJ T2
      have vO:Ends P fr2 w3:=by
       rcases d2 with⟨rv,h,_⟩|⟨e,ch,h,_⟩
       .exact .inl ⟨rv,h⟩
       .exact .inr ⟨_,h⟩
      obtain⟨_,OY⟩:=before d1 vO f1;rcases Wt with Wt|⟨ws,kk,X7,X8⟩
      .obtain⟨nn,g3,v3,e,p1,p2,p3,p4,p5⟩:=hl.check (X k).p g2 (X k).f v2 (ND++[Base P]) f3.head Wt (fun q=>by
        rw[f5,f6];show(if D k<D k then T (D k)else hl.a0) q=hl.a0 q;rw[if_neg (Nat.lt_irrefl _)])
       have hgo:runN P (ν2+nn) (start T2)=.next (lone g3 (ND++[Base P]) v3):=by rw[runN_add,f1];exact p1
       obtain⟨_,OZ⟩:=before d1 vO hgo;have hw3:WR P S (KS P S) N (X k).p v3 (X k).w:=⟨f2.inj,fun r r' h=>by rw[p5];exact f2.blk r r' h,by rw[p5];exact f2.low,f2.fix,by rw[p5];exact f2.fv,f2.jr,f2.str,f2.tz⟩
       have hfd:∀x∈ND,FD P S H (X k).p x:=fun x hx=>f3.fd x (by simp[hx]);obtain⟨Dk,q1,q2,q3⟩:=rB _ g3 ND v3 (X k).w [e] e p2 rfl p4 hfd hw3 fr2 w3 OZ vO;rcases d2 with⟨rv,h,_⟩|⟨e',RJ,h,hC,_⟩
       .have:=h.1;rw[q1]at this;cases this
       .have:=h.1;rw[q1]at this;simp only[FrameMode.panicking.injEq]at this;subst this;simp only[List.head?_cons,Option.some.injEq]at q2;subst q2;rw[p3]at hC;have NE:Alike v2 w3:=fun r=>by have:=q3 r;rw[p5]at this;exact this
        exact hl.ha (X k).p g2 (X k).f v2 (pk k) f3.head Wt (f2.env vN) (hl.AZ _ _ _ NE hC)
      .exact(vM OY vO (step_lone_ended (o:=.unsupported _ (g2.pos P)) (w':=v2) (by
        unfold stepG;simp only[X8];unfold stepG.exec;simp only[X7];rfl))).elim
     have EK:∃o,(X k).out (ae P F) N main base Fin HA HP (pk k) o:=by
      refine Classical.byContradiction fun iF=>rC (.inr (.inr (.inr ⟨rG,fc,rest,qs,fun v w3 et br hp=>?_⟩)));exact Classical.byContradiction fun hx=>iF ⟨(v,w3),fc,rest,et,br,qs,hp,hx⟩
     obtain⟨fc2,S4,et,br,NF,hHP,O0⟩:=(X k).vK (ae P F) N main base Fin HA HP EK;rw[qs]at NF;obtain⟨rfl,rfl⟩:fc=fc2/\rest=S4:=by simpa using NF
     obtain⟨nn,u,v1,p0,p1,p2,p4,p5,p6,p7,p8,p9,p10⟩:=hl.pass (X k).p g (X k).f v (pk k) lc (yf++[Base P]) _ _ et br e3.head hh xA hHP (fun i hi q=>by
      have:=hT k (by omega) i (by rw[tG];exact hi);rw[e5,e6,this];unfold Nd.piece;rw[if_pos kQ])
     have Gv:X (k+1)=⟨hl.q3 (X k).p (X k).L (X k).f (pk k) ((X k).eS (ae P F) N main base Fin HA HP).1 ((X k).eS (ae P F) N main base Fin HA HP).2,(X k).L+hl.ln,fc.finish ((X k).eS (ae P F) N main base Fin HA HP).1,rest,((X k).eS (ae P F) N main base Fin HA HP).2⟩:=by
      show(X k).nx (ae P F) main base Fin hl=_;unfold Nd.nx;rw[if_pos kQ,qs]
     rw[Gv];rw[e7]at p2 p4 p5 p6 p7;refine⟨ν+nn,lc.finish u,yf,v1,by omega,by rw[runN_add,e1,hgs];exact p1,p4,(AF.mono p5).top ((AF.mono p5).head.finish p2) (dD _ _),e4.mono p5,p8.trans e5,?_,by rw[p10,e7],?_,e9.trans p5⟩
     .rw[p9,e6];show D k+hl.m1=fS m lw.drawn k+m k;rw[tG]
     .unfold Nd.ct;rw[<-p6,<-p7];exact O0
    .exact(vM pM mi (step_lone_ended (o:=.unsupported _ (g.pos P)) (w':=v) (by
      unfold stepG;simp only[X8];unfold stepG.exec;simp only[X7];rfl))).elim
   ·
    have tG:m k=(gw ((X k).step (ae P F) main base (pk k))).drawn-(pk k).drawn:=by show Nd.cnt _ _ _ _ hl (X k)=_;unfold Nd.cnt;rw[if_neg kQ]
    have A6:kh (m k) v (pk k):=fun j hj q=>by
     have:=hT k (by omega) j hj;rw[e5,e6,this];unfold Nd.piece;rw[if_neg kQ]
    have hd:(gw (stepG (ae P F) main {frame:=(X k).f,callers:=(X k).top++base,status:=.running,dying:=none} (pk k))).drawn<=(pk k).drawn+m k:=by
     rw[tG];show(gw ((X k).step (ae P F) main base (pk k))).drawn<=(pk k).drawn+((gw ((X k).step (ae P F) main base (pk k))).drawn-(pk k).drawn)
     omega
    have O4:=di.step (b:=Base P) (bs:=[]) (aP:=base) hc xA e4 e3 (fun c c' k1 k1' hm h1 h2 hH=>kQ ⟨by
     have jS:=e3.head.mode;rw[hm]at jS;generalize(X k).f.mode=o at jS;cases jS;rfl,c,c',k1',h2,e3.head.fn▸hH⟩) (fun⟨_,o,_,_,_,_,_,_,h5,_⟩=>by rw[hl.bare o.op]at h5;cases h5) true main hb A6 hd
    rcases O4 with⟨o,w3,es,hs⟩|⟨q,ch,RJ,w3,es,Di,hs⟩|⟨c,nn,v1,w3,es,cV,hm,S5,jy⟩
    .exact(vM pM mi (step_lone_ended (o:=o) (w':=w3) (by rw[hs];rfl))).elim
    .exfalso;have bL:step P (lone g (gs++[Base P]) v)=.next (lone ((Base P).raise ch) [] w3):=step_lone_go (by rw[hs];rfl);obtain⟨_,hσ⟩:=vL pM bL (eR P ch w3);rw[hσ]at bL;rcases c2 with⟨rv,h,_⟩|⟨e,Dk,h,_,hnv⟩
     .rw[step_leave_returned h]at bL;simp only[Stepped.next.injEq]at bL;have q1:=(eL bL).1;rw[dA]at q1;have:=congrArg (fun f:Frame=>f.mode) q1;simp[Base,Frame.raise]at this
     .rw[step_leave_panicked h]at bL;simp only[Stepped.next.injEq]at bL;have q1:=congrArg (fun f:Frame=>f.mode) (eL bL).1;simp only[Base,Frame.raise,FrameMode.panicking.injEq]at q1;rw[<-q1]at Di;cases Di with
      |cons b1 b2 hv _=>exact hnv S q _ hl.marked hv
    .obtain⟨rH,qP,qu⟩:=cq.fair xA hm S5;rcases jy with⟨f2,Lj,t2,Lk,AF,hs,tg⟩|⟨O5,A7,hv,hs,tg⟩
     .have bL:step P (lone g (gs++[Base P]) v)=.next (lone f2 (t2++[Base P]) v1):=step_lone_go (by rw[hs];rfl);have oA:=rA P ν _ _ e1;rw[bL]at oA;have mh:(X k).step (ae P F) main base (pk k)=.go (gX Lj (Lk++base)) w3 cV:=tg
      have Gv:X (k+1)=⟨ext (X k).p (X k).L (pk k).heap.size c,(X k).L+c,Lj,Lk,w3⟩:=by
       show(X k).nx (ae P F) main base Fin hl=_;unfold Nd.nx;rw[if_neg kQ];have A8:(X k).step (ae P F) main base ((X k).pick (ae P F) N main base Fin HA HP)=.go (gX Lj (Lk++base)) w3 cV:=tg;rw[A8]
       have bX:w3.heap.size-((X k).pick (ae P F) N main base Fin HA HP).heap.size=c:=by
        have h6:w3.heap.size=(pk k).heap.size+c:=hm.kG;show w3.heap.size-(pk k).heap.size=c;rw[h6,Nat.add_sub_cancel_left]
       simp only[bX];congr 1;rw[List.length_append,Nat.add_sub_cancel];exact List.take_left
      rw[Gv];have hrel:=hm.rel;rw[e7]at hrel AF qP qu;have EM:=eG (X k).p (X k).L (pk k).heap.size c;refine⟨ν+1,f2,t2,v1,by omega,oA,hrel,AF,e4.mono EM,hm.tape.trans e5,?_,by rw[hm.size,e7],?_,e9.trans EM⟩
      .rw[hm.drawn,e6]
       have:m k=nn:=by
        rw[tG,mh];have h5:w3.drawn=(pk k).drawn+nn:=hm.kH;show w3.drawn-(pk k).drawn=nn;rw[h5,Nat.add_sub_cancel_left]
       show D k+nn=fS m lw.drawn k+m k;rw[this]
      .intro A9;refine rC (.inl ⟨w3,cV,Lj,Lk,mh,rH,?_⟩);unfold Nd.ct at A9;rw[qP,qu]at A9;exact A9
     .exfalso;have bL:step P (lone g (gs++[Base P]) v)=.next (lone ((Base P).finish O5) [] v1):=step_lone_go (by rw[hs];rfl);obtain⟨_,hσ⟩:=vL pM bL (fR P O5 v1);rw[hσ]at bL;rcases c2 with⟨rv,h,hR⟩|⟨e,Dk,h,_⟩
      .rw[step_leave_returned h]at bL;simp only[Stepped.next.injEq]at bL;obtain⟨q1,_,q3⟩:=eL bL;rw[dA,dA]at q1
       have Ba:rv=O5:=by
        have:=congrArg (fun f:Frame=>f.tmps) q1;simpa using this
       subst Ba;subst q3;have mE:Fin (aG (jx (X k).p) (pk k) w3) (aG (bT N (X k).p) (pk k) w3) A7 w3:=⟨_,rv,w1,hR,hv,hm.rel,e9.trans (eG _ _ _ _),qP.symm,qu.symm⟩
       rcases tg with⟨b',vH,jz,tg⟩|⟨jz,tg⟩
       .exact rC (.inr (.inl ⟨w3,cV,A7,b',vH,jz,tg,rH,mE⟩))
       .exact rC (.inr (.inr (.inl ⟨w3,cV,A7,jz,tg,rH,mE⟩)))
      .rw[step_leave_panicked h]at bL;simp only[Stepped.next.injEq]at bL;have q1:=(eL bL).1;rw[dA]at q1;have:=congrArg (fun f:Frame=>f.mode) q1;simp[Base,Frame.raise]at this
 obtain⟨T,hT⟩:=splice m (fun k j=>(X k).piece (ae P F) main base Fin hl j) lw.drawn;obtain⟨n,fr,w1,c1,c2⟩:=EJ T
 have mi:Ends P fr w1:=by
  rcases c2 with⟨rv,h,_⟩|⟨e,ch,h,_⟩
  .exact .inl ⟨rv,h⟩
  .exact .inr ⟨_,h⟩
 obtain⟨ν,g,gs,v,e0,e1,_⟩:=inv (n+1) T fun j _ i hi=>hT j i hi;obtain⟨hle,_⟩:=before c1 mi e1;omega
end
end Go.aA
