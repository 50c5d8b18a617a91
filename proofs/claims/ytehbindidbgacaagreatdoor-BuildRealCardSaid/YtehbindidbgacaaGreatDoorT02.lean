/- A part. Conditions: none. -/
import Derived.Test.YtehbindidbgacaaGreatDoorT01
set_option linter.all false
namespace Go.av
variable {c id m n r r':Nat} {cF xs:Array Value} {da t t':List Frame} {es:Array Event} {f f' fr g:Frame} {fN lw w1 w2:World} {k l l':List Item} {kn own:Nat->Prop} {s':GStep} {v v':Value} {α:Type} {σ:Machine}
def gw:GStep->World
 |.go _ w _=>w
 |.comm _ _ _ _ w _=>w
 |.spawn _ _ w _=>w
 |.count _ w _=>w
 |.timer _ _ w _=>w
 |.alone _ _ w _=>w
 |.newcoro _ _ _ w _=>w
 |.coroswitch _ _ _ w _=>w
 |.collect _ w _=>w
 |.watch _ w _=>w
 |.ended _ w _=>w
@[simp] theorem jz (es:Array Event) (s:GStep):gw (GStep.after es s)=gw s:=by cases s <;> rfl
theorem D9 (P:Program) (s:Sem α) (w:World):w.drawn<=(world (s.run P w)).drawn:=by
 have:=mF P s w #[];rw[Sem.runT_fst]at this;exact this
theorem kV {P:Program} {s:Sem α} {w:World} {r:Result α} (h:s.run P w=r):w.drawn<=(world r).drawn:=h▸D9 P s w
theorem rj (P:Program) (fr:Frame) (cs:List Frame) (d:Option Dying) (m:String) (w:World):w.drawn<=(gw (endFatal P fr cs d m w)).drawn:=by
 unfold endFatal;dsimp only;split
 .rename_i h;exact kV h
 .rename_i h;exact kV h
 .rename_i h;exact kV h
theorem xR (P:Program) (fr:Frame) (cs:List Frame) (d:Option Dying) (g:Nat) (w:World):w.drawn<=(gw (early P fr cs d g w)).drawn:=by
 unfold early;dsimp only;repeat' split
 all_goals first
  |exact Nat.le_refl _
  |(have hx:=kV (by assumption:Sem.run P (choose (Question.early g)) w=Result.ok _ _);exact hx)
  |(have hx:=kV (by assumption:Sem.run P (choose (Question.early g)) w=Result.halt _ _);exact hx)
theorem pN (P:Program) (fr:Frame) (cs:List Frame) (d:Option Dying) (s:Sem Next) (w:World):(world (s.runT P w #[]).1).drawn<=(gw (stepG.apply P true fr cs d s w)).drawn:=by
 unfold stepG.apply;simp only[if_true];generalize s.runT P w #[]=x;obtain⟨r,es⟩:=x;simp only[jz];split;all_goals(try exact Nat.le_refl _)
 all_goals(try(split<;>exact Nat.le_refl _))
 all_goals first
  |exact rj ..
  |exact xR ..
  |(split<;>split<;>exact Nat.le_refl _)
section
variable (P:Program) (S:Nat->Bool) (H:FuncId->Code->Code->Prop) (N:Nat)
def cV (p:Pi) (w w':World) (b:Frame) (bs:List Frame) (aO:List Frame) (s s':GStep):Prop:=
 (∃o w1 es,s=.ended o w1 es)\/(∃q ch Rn w1 es,CL S q ch Rn/\s=.go {frame:=b.raise ch,callers:=bs,status:=.running,dying:=none} w1 es)\/
 ∃c n w1 fN es cI,bY P S (KS P S) N p w w' c n w1 fN/\(∀e∈cI,JD N (ext p w.heap.size w'.heap.size c) e)/\
  ((∃f f' top da,FL P S H (ext p w.heap.size w'.heap.size c) (f::top) (f'::da)/\
     s=.go {frame:=f,callers:=top++b::bs,status:=.running,dying:=none} w1 es/\
     s'=.go {frame:=f',callers:=da++aO,status:=.running,dying:=none} fN cI)\/
   (∃v v',VR S (ext p w.heap.size w'.heap.size c) v v'/\
     s=.go {frame:=b.finish v,callers:=bs,status:=.running,dying:=none} w1 es/\
     ((∃b' vC,aO=b'::vC/\s'=.go {frame:=b'.finish v',callers:=vC,status:=.running,dying:=none} fN cI)\/
      (aO=[]/\s'=.ended (.done v') fN cI))))
end
section
variable {P:Program} {F:Array Func} {S:Nat->Bool} {H:FuncId->Code->Code->Prop} {N:Nat} {p:Pi} {w w':World} {b:Frame} {bs:List Frame} {aO:List Frame}
theorem cV.ended (o:Outcome) (w1:World) (es:Array Event):cV P S H N p w w' b bs aO (.ended o w1 es) s':=.inl ⟨o,w1,es,rfl⟩
theorem cV.go (h:WR P S (KS P S) N p w w') {top:List Frame} (hf:FL P S H p (f::top) (f'::da)):
 cV P S H N p w w' b bs aO (.go {frame:=f,callers:=top++b::bs,status:=.running,dying:=none} w) (.go {frame:=f',callers:=da++aO,status:=.running,dying:=none} w'):=
 .inr (.inr ⟨0,0,w,w',#[],#[],bY.refl h,by simp,.inl ⟨f,f',top,da,by rw[bz];exact hf,rfl,rfl⟩⟩)
theorem cV.ret (h:WR P S (KS P S) N p w w') (hv:VR S p v v') (b':Frame) (vC:List Frame):
 cV P S H N p w w' b bs (b'::vC) (.go {frame:=b.finish v,callers:=bs,status:=.running,dying:=none} w) (.go {frame:=b'.finish v',callers:=vC,status:=.running,dying:=none} w'):=
 .inr (.inr ⟨0,0,w,w',#[],#[],bY.refl h,by simp,.inr ⟨v,v',by rw[bz];exact hv,rfl,.inl ⟨b',vC,rfl,rfl⟩⟩⟩)
theorem cV.Kq (h:WR P S (KS P S) N p w w') (hv:VR S p v v'):
 cV P S H N p w w' b bs [] (.go {frame:=b.finish v,callers:=bs,status:=.running,dying:=none} w) (.ended (.done v') w'):=
 .inr (.inr ⟨0,0,w,w',#[],#[],bY.refl h,by simp,.inr ⟨v,v',by rw[bz];exact hv,rfl,.inr ⟨rfl,rfl⟩⟩⟩)
theorem cV.raised {q:Pi} {v v':List PanicEntry} (h:CL S q v v') (w1:World) (es:Array Event):
 cV P S H N p w w' b bs aO (.go {frame:=b.raise v,callers:=bs,status:=.running,dying:=none} w1 es) s':=.inr (.inl ⟨q,v,v',w1,es,h,rfl⟩)
theorem cV.trans (hm:bY P S (KS P S) N p w w' c n w1 fN) {cI:Array Event} (he:∀e∈cI,JD N (ext p w.heap.size w'.heap.size c) e) {s:GStep}
 (h:cV P S H N (ext p w.heap.size w'.heap.size c) w1 fN b bs aO s s'):cV P S H N p w w' b bs aO (s.after es) (s'.after cI):=by
 rcases h with⟨o,w2,X7,rfl⟩|⟨q,ch,Rn,w2,X7,CE,rfl⟩|⟨c2,n2,w2,JE,fs,Yl,k1,k2,k3⟩
 .exact .inl ⟨o,w2,_,rfl⟩
 .exact .inr (.inl ⟨q,ch,Rn,w2,_,CE,rfl⟩)
 .rw[hm.size,hm.kN,ns]at k2 k3;refine .inr (.inr ⟨c+c2,n+n2,w2,JE,es++fs,cI++Yl,hm.trans k1,fun x hx=>?_,?_⟩)
  .rcases Array.mem_append.1 hx with hx|hx
   .refine(he x hx).mono ?_;rw[<-ns];exact eG _ _ _ _
   .exact k2 x hx
  .rcases k3 with⟨f,f',top,da,x1,rfl,rfl⟩|⟨v,v',x1,rfl,⟨b',vC,x2,rfl⟩|⟨x2,rfl⟩⟩
   .exact .inl ⟨f,f',top,da,x1,rfl,rfl⟩
   .exact .inr ⟨v,v',x1,rfl,.inl ⟨b',vC,x2,rfl⟩⟩
   .exact .inr ⟨v,v',x1,rfl,.inr ⟨x2,rfl⟩⟩
def ku (m:Nat) (w w':World):Prop:=∀j,j<m->∀q,w.tape (w.drawn+j) q=w'.tape (w'.drawn+j) q
theorem ku.SI (h:ku m w w') (hm:bY P S (KS P S) N p w w' c n w1 fN):ku (m-n) w1 fN:=by
 intro j hj q;have:=h (n+j) (by omega) q;rw[hm.tape,hm.Cv,hm.drawn,hm.kO,Nat.add_assoc,Nat.add_assoc];exact this
theorem cV.run {β:Type} {Q:Pi->α->β->Prop} {s:Sem α} {s':Sem β} (h:SR P F S (KS P S) N Q s s' p) (hw:WR P S (KS P S) N p w w') (hm:ku m w w')
 {ev:Result α->Array Event->Array Event} {Oj:Result β->Array Event->Array Event} (aZ:∀r es e,e∈Oj r es->e∈es)
 {k:Result α->GStep} {k':Result β->GStep} (hd:(gw (k' (s'.runT (ae P F) w' #[]).1)).drawn<=w'.drawn+m) (hk:∀r,(world r).drawn<=(gw (k' r)).drawn)
 (SJ:∀x w1,dead x->∃o w2 es,k (.halt x w1)=.ended o w2 es)
 (jA:∀c n w1 fN x y,bY P S (KS P S) N p w w' c n w1 fN->Q (ext p w.heap.size w'.heap.size c) x y->ku (m-n) w1 fN->(gw (k' (.ok y fN))).drawn<=fN.drawn+(m-n)->
   cV P S H N (ext p w.heap.size w'.heap.size c) w1 fN b bs aO (k (.ok x w1)) (k' (.ok y fN)))
 (Ol:∀c n w1 fN v v',bY P S (KS P S) N p w w' c n w1 fN->VR S (ext p w.heap.size w'.heap.size c) v v'->
   cV P S H N (ext p w.heap.size w'.heap.size c) w1 fN b bs aO (k (.halt (.panic v) w1)) (k' (.halt (.panic v') fN))):
 cV P S H N p w w' b bs aO (GStep.after (ev (s.runT P w #[]).1 (s.runT P w #[]).2) (k (s.runT P w #[]).1)) (GStep.after (Oj (s'.runT (ae P F) w' #[]).1 (s'.runT (ae P F) w' #[]).2) (k' (s'.runT (ae P F) w' #[]).1)):=by
 have ho:=SR.sound h w w' #[] #[] m hw hm (Nat.le_trans (hk _) hd);rcases ho with⟨x,w1,es1,e,hx⟩|⟨c,n,w1,fN,es1,fs,k1,k2,⟨x,y,e,e',hq⟩|⟨v,v',e,e',hv⟩⟩
 .rw[e];obtain⟨o,w2,es,e2⟩:=SJ x w1 hx;simp only[e2];exact .inl ⟨o,w2,_,rfl⟩
 .rw[e']at hd;simp only at hd;have hwd:(world (.ok y fN:Result β)).drawn<=w'.drawn+m:=Nat.le_trans (hk _) hd;simp only[world]at hwd;rw[k1.kO]at hwd;rw[e,e'];simp only[Array.empty_append];refine cV.trans k1 (fun z hz=>k2 z (aZ _ _ _ hz)) (jA c n w1 fN x y k1 hq (hm.SI k1) ?_);rw[k1.kO];omega
 .rw[e,e'];simp only[Array.empty_append];exact cV.trans k1 (fun z hz=>k2 z (aZ _ _ _ hz)) (Ol c n w1 fN v v' k1 hv)
end
section
variable {P:Program} {F:Array Func} {S:Nat->Bool} {K:Kz} {N:Nat} {p:Pi}
structure MZ (S:Nat->Bool) (K:Kz) (p:Pi) (l l':Loop):Prop where
 h1:l.state=l'.state
 h2:l.pending=l'.pending
 h3:l.fn=l'.fn
 h4:AR S p l.tmps l'.tmps
 h5:l.params=l'.params
 h6:l.assign=l'.assign
 h7:l.body=l'.body
 h8:p l.defers l'.defers
 k1:S l.fn=true
 k2:K l.assign
 k3:K l.body
 k4:∀c,l.pending=some c->K c
 k5:K (.label (100000+l.fn))
theorem MZ.or {l l':Loop} (x:MZ S K p l l'):OR S K p (.loop l) (.loop l'):=.loop x.h1 x.h2 x.h3 x.h4 x.h5 x.h6 x.h7 x.h8 x.k1 x.k2 x.k3 x.k4 x.k5
theorem SR.getLoop (h:p r r'):SR P F S K N (fun q l l'=>MZ S K q l l') (Instr.getLoop r) (Instr.getLoop r') p:=by
 unfold Instr.getLoop;refine(SR.getObj h).bind fun q o o' hq ho=>?_;cases ho<;>first|exact SR.stuck|skip
 rename_i h1 h2 h3 h4 h5 h6 h7 h8 k1 k2 k3 k4 k5;exact SR.pure ⟨h1,h2,h3,h4,h5,h6,h7,h8,k1,k2,k3,k4,k5⟩
theorem SR.enterLoop {f f':Nat} (Ro:f=f') (hf:S f=true) (hz:K (.label (100000+f))) (hx:AR S p xs cF) (ps:Array Tmp) {a c:Code} (ha:K a) (hc:K c) {o o':Option Nat} (ho:RR p o o'):
 SR P F S K N (fun q x y=>q x.1 y.1/\DL q x.2 y.2) (Instr.enterLoop f xs ps a c o) (Instr.enterLoop f' cF ps a c o') p:=by
 subst Ro;unfold Instr.enterLoop;cases ho with
 |none=>
  simp only[bind_assoc,pure_bind];refine(SR.newObj .dK fun _ _ _ _ _ _ _ a=>by cases a).bind fun q r r' hq hr=>?_;refine(SR.newObj (MZ.or (l:={state:=.ready,pending:=none,fn:=f,tmps:=xs,params:=ps,assign:=a,body:=c,defers:=r}) (l':={state:=.ready,pending:=none,fn:=f,tmps:=cF,params:=ps,assign:=a,body:=c,defers:=r'}) ⟨rfl,rfl,rfl,hx.mono hq,rfl,rfl,rfl,hr.1,hf,ha,hc,fun c h=>(by cases h),hz⟩) fun _ _ _ _ _ _ _ a=>by cases a).bind fun q2 s s' cj hs=>?_;exact SR.pure ⟨hs.1,.cons (cj _ _ hr.1) .nil⟩
 |some h=>
  simp only[bind_assoc,pure_bind];refine(SR.getLoop h).bind fun q r r' hq hr=>?_;refine(SR.newObj (MZ.or (l:={state:=.ready,pending:=none,fn:=f,tmps:=xs,params:=ps,assign:=a,body:=c,defers:=r.defers}) (l':={state:=.ready,pending:=none,fn:=f,tmps:=cF,params:=ps,assign:=a,body:=c,defers:=r'.defers}) ⟨rfl,rfl,rfl,hx.mono hq,rfl,rfl,rfl,hr.h8,hf,ha,hc,fun c h=>(by cases h),hz⟩) fun _ _ _ _ _ _ _ a=>by cases a).bind fun q2 s s' cj hs=>?_;exact SR.pure ⟨hs.1,.nil⟩
theorem SR.beginRound (h:p r r'):SR P F S K N (QE Unit) (Instr.beginRound r) (Instr.beginRound r') p:=by
 unfold Instr.beginRound;refine(SR.getLoop h).bind fun q l l' hq hl=>?_;refine(SR.setObj (hq _ _ h) (MZ.or (l:={l with state:=.busy}) (l':={l' with state:=.busy}) ⟨rfl,hl.h2,hl.h3,hl.h4,hl.h5,hl.h6,hl.h7,hl.h8,hl.k1,hl.k2,hl.k3,hl.k4,hl.k5⟩) fun _ _ _ _ _ _ _ a=>by cases a).az fun q2 _ cj=>?_;rw[<-hl.h1];cases l.state with
 |ready=>exact SR.pure rfl
 |done=>exact SR.err _
 |busy=>exact SR.err _
 |exhausted=>exact SR.err _
theorem SR.endRound (h:p r r') (j:Option Code) (hj:∀c,j=some c->K c):SR P F S K N (QV S) (Instr.endRound r j) (Instr.endRound r' j) p:=by
 unfold Instr.endRound;refine(SR.getLoop h).bind fun q l l' hq hl=>?_;refine(SR.setObj (hq _ _ h) (MZ.or (l:={l with state:=if j.isNone then .ready else .done,pending:=j}) (l':={l' with state:=if j.isNone then .ready else .done,pending:=j}) ⟨rfl,rfl,hl.h3,hl.h4,hl.h5,hl.h6,hl.h7,hl.h8,hl.k1,hl.k2,hl.k3,hj,hl.k5⟩) fun _ _ _ _ _ _ _ a=>by cases a).az fun q2 _ cj=>?_;exact SR.pure (VR.plain 2 _ rfl)
theorem SR.endLoop (h:p r r'):SR P F S K N (fun _ a b=>a=b/\∀c,a=some c->K c) (Instr.endLoop r) (Instr.endLoop r') p:=by
 unfold Instr.endLoop;refine(SR.getLoop h).bind fun q l l' hq hl=>?_;rw[<-hl.h1]
 have tail:∀q2,Le q q2->SR P F S K N (fun _ a b=>a=b/\∀c,a=some c->K c) (Go.setObj r (.loop {l with state:=.exhausted})>>=fun _=>(Pure.pure l.pending:Sem (Option Code))) (Go.setObj r' (.loop {l' with state:=.exhausted})>>=fun _=>(Pure.pure l'.pending:Sem (Option Code))) q2:=fun q2 cj=>by
  refine(SR.setObj (cj _ _ (hq _ _ h)) (MZ.or (l:={l with state:=.exhausted}) (l':={l' with state:=.exhausted}) ⟨rfl,hl.h2,hl.h3,hl.h4.mono cj,hl.h5,hl.h6,hl.h7,cj _ _ hl.h8,hl.k1,hl.k2,hl.k3,hl.k4,hl.k5⟩) fun _ _ _ _ _ _ _ a=>by cases a).az fun q3 _ gu=>?_;exact SR.pure ⟨hl.h2,hl.k4⟩
 split
 .exact(SR.err (α:=PUnit) (β:=PUnit) (Q:=QE PUnit) _).az fun q2 _ cj=>tail q2 cj
 .exact tail q (Le.refl q)
theorem SR.takeDeferred (h:p r r'):SR P F S K N (fun _ a b=>a=[]/\b=[]) (Instr.takeDeferred r) (Instr.takeDeferred r') p:=by
 unfold Instr.takeDeferred;refine(SR.getObj h).bind fun q o o' hq ho=>?_;cases ho<;>first|exact SR.stuck|skip
 refine(SR.setObj (hq _ _ h) .dJ fun _ _ _ _ _ _ _ a=>by cases a).az fun q2 _ cj=>?_;exact SR.pure ⟨rfl,rfl⟩
theorem SR.SK (f f':α->Sem Value):∀(l:List α) {p:Pi} {acc An:Array Value},(∀x q,Le p q->SR P F S K N (QV S) (f x) (f' x) q)->AR S p acc An->
 SR P F S K N (QA S) (l.foldlM (fun bs a=>Functor.map bs.push (f a)) acc) (l.foldlM (fun bs a=>Functor.map bs.push (f' a)) An) p:=by
 intro l;induction l with
 |nil=>intro p acc An _ ha;exact SR.pure ha
 |cons x l ih=>
  intro p acc An h ha;simp only[List.foldlM_cons];refine SR.bind (Q:=QA S) ?_ fun q a b hq nz=>ih (fun y q2 cj=>h y q2 (hq.trans cj)) nz;exact(h x p (Le.refl p)).bind fun q b b' hq hb=>SR.pure ((ha.mono hq).push hb)
theorem SR.results {fn kL:Func} (hr:fn.results=kL.results) (h:AR S p xs cF):SR P F S K N (QV S) (Go.results fn xs) (Go.results kL cF) p:=by
 unfold Go.results;rw[<-hr];refine SR.bind (Q:=QA S) ?_ fun q vs MV hq hv=>?_
 .rw[Array.mapM_eq_foldlM,<-Array.foldlM_toList,Array.mapM_eq_foldlM,<-Array.foldlM_toList];refine SR.SK _ _ _ (fun x q hq=>?_) AR.empty;cases x with
  |tmp t=>exact SR.pure ((h.mono hq).getD t VR.undef)
  |cell a t=>exact(SR.asAddr ((h.mono hq).getD a VR.undef)).bind fun q2 a a' cj ha=>SR.loadVar t ha
 .refine SR.pure ?_;have:=hv.1;by_cases h1:vs.size=1
  .have CB:MV.size=1:=by omega
   simp only[h1,CB,dif_pos];exact hv.2 0 _ _ (by simp[h1]) (by simp[CB])
  .have CB:MV.size≠1:=by omega
   simp only[h1,CB,dif_neg,not_false_eq_true];exact hv.tuple
end
section
variable {P:Program} {F:Array Func} {S:Nat->Bool} {H:FuncId->Code->Code->Prop} {N:Nat} {p:Pi} {w w':World} {b:Frame} {bs:List Frame} {aO:List Frame}
theorem Kt {f:Nat} (h:KS P S (.label (100000+f))):S (P.funcs.size+P.globals.size+1+f)=false:=by
 have h:(decide (100000+f<100000)||!S (P.funcs.size+P.globals.size+1+(100000+f-100000)))=true:=h;rw[Nat.add_sub_cancel_left,decide_eq_false (by omega),Bool.false_or]at h;simpa using h
theorem Ku {f:Nat} (h:S (P.funcs.size+P.globals.size+1+f)=false):KS P S (.label (100000+f)):=by
 show(decide (100000+f<100000)||!S (P.funcs.size+P.globals.size+1+(100000+f-100000)))=true;rw[Nat.add_sub_cancel_left,h];simp
theorem TL.kind {H:Code->Code->Prop} (h:TL P S H p l l'):(match l with|.call _ true _ _::_=>CallKind.wrapped|_=>CallKind.normal)=.normal/\(match l' with|.call _ true _ _::_=>CallKind.wrapped|_=>CallKind.normal)=.normal:=by
 cases h with
 |nil=>exact⟨rfl,rfl⟩
 |cons hi ht=>cases hi<;>exact⟨rfl,rfl⟩
theorem FL.head (h:FL P S H p (f::t) (f'::t')):kD P S H p f f':=by
 cases h with
 |one h=>exact h
 |cons h=>exact h
theorem FL.top {g':Frame} (h:FL P S H p (f::t) (f'::t')) (hg:kD P S H p g g') (hr:g.roundOf=f.roundOf/\g.fn=f.fn):FL P S H p (g::t) (g'::t'):=by
 cases h with
 |one h r=>exact .one hg ⟨hr.1.trans r.1,by rw[hr.2];exact r.2⟩
 |cons h t=>exact .cons hg t
theorem du (f:Frame) (v:Value):(f.finish v).roundOf=f.roundOf/\(f.finish v).fn=f.fn:=by
 unfold Frame.finish;split<;>exact⟨rfl,rfl⟩
theorem iR (f:Frame) (v:List PanicEntry):(f.raise v).roundOf=f.roundOf/\(f.raise v).fn=f.fn:=by
 unfold Frame.raise;split<;>exact⟨rfl,rfl⟩
theorem cV.apply (hc:Closed P F S H) (hw:WR P S (KS P S) N p w w') {top:List Frame} (hf:FL P S H p (f::top) (f'::da)) (hm:ku m w w')
 {s s':Sem Next} (hs:SR P F S (KS P S) N (QX S (KS P S)) s s' p) (hd:(gw (stepG.apply (ae P F) true f' (da++aO) none s' w')).drawn<=w'.drawn+m):
 cV P S H N p w w' b bs aO (stepG.apply P true f (top++b::bs) none s w) (stepG.apply (ae P F) true f' (da++aO) none s' w'):=by
 have ho:=SR.sound hs w w' #[] #[] m hw hm (Nat.le_trans (pN ..) hd);have fO:=hf.head;have hk:=fO.todo.kind;have SL:(f'.kind==CallKind.early)=false:=by rw[fO.kr];rfl
 rcases ho with⟨x,w1,es1,e,hx⟩|⟨c,n,w1,fN,es1,fs,k1,k2,⟨x,y,e,e',hq⟩|⟨v,v',e,e',hv⟩⟩
 .cases x with
  |stuck why=>exact .inl ⟨_,_,_,by simp only[stepG.apply,if_true,e];rfl⟩
  |unsupported u=>cases u<;>first|exact absurd hx id|exact .inl ⟨_,_,_,by simp only[stepG.apply,if_true,e];rfl⟩
  |_=>exact absurd hx id
 .rw[Array.empty_append]at e';have hle:=eG p w.heap.size w'.heap.size c;have aZ:∀z∈seen (ae P F) f'.fn fs,JD N (ext p w.heap.size w'.heap.size c) z:=fun z hz=>k2 z (mem_seen hz);have Ac:=hf.mono hle;cases hq with
  | @value v v' h=>
    have t:=cV.trans (b:=b) (bs:=bs) (aO:=aO) k1 (es:=seen P f.fn (if f.kind==CallKind.early then #[]else es1)) aZ (cV.go k1.rel (Ac.top (Ac.head.finish h) (du f v)));simpa only[stepG.apply,if_true,e,e',SL,Bool.false_eq_true,if_false,GStep.after]using t
  |skip=>
   have t:=cV.trans (b:=b) (bs:=bs) (aO:=aO) k1 (es:=seen P f.fn (if f.kind==CallKind.early then #[]else es1)) aZ (cV.go k1.rel (Ac.top (Ac.head.finish VR.undef) (du f _)));simpa only[stepG.apply,if_true,e,e',SL,Bool.false_eq_true,if_false,GStep.after]using t
  | @enter g xs cF hg h=>
    have t:=cV.trans (b:=b) (bs:=bs) (aO:=aO) k1 (es:=seen P f.fn (if f.kind==CallKind.early then #[]else es1)) aZ (cV.go k1.rel (FL.cons (kD.enter hc hg h hk.1 hk.2) Ac));simp only[stepG.apply,if_true,e,e',SL,Bool.false_eq_true,if_false,GStep.after];exact t
  | @round l l' g xs cF a1 a2 hl hg h h1 h2 hz=>
    have hn:∀a b,¬H g a b:=(hc.xi g hg).2 (Kt hz);have t:=cV.trans (b:=b) (bs:=bs) (aO:=aO) k1 (es:=seen P f.fn (if f.kind==CallKind.early then #[]else es1)) aZ (cV.go k1.rel (FL.cons (kD.Ko hn hl hg h h1 h2) Ac));simpa only[stepG.apply,if_true,e,e',SL,Bool.false_eq_true,if_false,GStep.after,List.cons_append]using t
 .rw[Array.empty_append]at e';have hle:=eG p w.heap.size w'.heap.size c;have aZ:∀z∈seen (ae P F) f'.fn fs,JD N (ext p w.heap.size w'.heap.size c) z:=fun z hz=>k2 z (mem_seen hz);have Ac:=hf.mono hle;have t:=cV.trans (b:=b) (bs:=bs) (aO:=aO) k1 (es:=seen P f.fn (if f.kind==CallKind.early then #[]else es1)) aZ (cV.go k1.rel (Ac.top (Ac.head.raise (.cons false false hv .nil)) (iR f _)));simpa only[stepG.apply,if_true,e,e',SL,Bool.false_eq_true,if_false,GStep.after]using t
end
section
variable {P:Program} {F:Array Func} {S:Nat->Bool} {H:FuncId->Code->Code->Prop} {N:Nat} {p:Pi} {w w':World} {b:Frame} {bs:List Frame} {aO:List Frame}
def Om (P:Program) (S:Nat->Bool) (main':Bool) (aO:List Frame):Prop:=aO=[]->main'=true/\∀f,S f=true->P.inits.idxOf? f=none
theorem cV.doReturn (hw:WR P S (KS P S) N p w w') {top:List Frame} (hf:FL P S H p (f::top) (f'::da)) (main main':Bool) (hb:Om P S main' aO) (hv:VR S p v v'):
 cV P S H N p w w' b bs aO (Go.doReturn P main f (top++b::bs) none v w) (Go.doReturn (ae P F) main' f' (da++aO) none v' w'):=by
 have h1:=hf.head.kind;have h2:=hf.head.kr;have h3:=hf.head.fn;have h4:=hf.head.MY;cases hf with
 |one h r=>
  cases aO with
  |nil=>
   obtain⟨rfl,fP⟩:=hb rfl;have hi:(ae P F).inits.idxOf? f'.fn=none:=by rw[<-h3];exact fP _ h4
   unfold Go.doReturn;simp only[h1,h2,List.nil_append,hi];exact cV.Kq hw hv
  |cons b' vC=>unfold Go.doReturn;rw[h1,h2];exact cV.ret hw hv b' vC
 |cons h t=>
  unfold Go.doReturn;rw[h1,h2];cases t with
  |one h r=>exact cV.go hw (.one (h.finish hv) ⟨(du _ _).1.trans r.1,by rw[(du _ _).2];exact r.2⟩)
  |cons h t=>exact cV.go hw (.cons (h.finish hv) t)
def vD:Option Code->Bool
 |none=>true
 |some .ret=>true
 |_=>false
def gQ (P:Program) (main:Bool) (fr:Frame) (callers:List Frame) (jump:Option Code) (w:World):GStep:=
 match fr.roundOf with
 |none=>if vD jump then .go {frame:={fr with mode:=.returning},callers,status:=.running,dying:=none} w else .ended (.stuck "exit, goto: no such block or label" (fr.pos P)) w
 |some l=>
  GStep.after (seen P fr.fn ((Instr.endRound l jump).runT P w #[]).2)<|match((Instr.endRound l jump).runT P w #[]).1 with
  |.ok v w=>Go.doReturn P main fr callers none v w
  |.halt _ w=>.ended (.stuck "range over a function: no such loop" (fr.pos P)) w
theorem kW (main:Bool) (f:Frame) (cs:List Frame) (hk:f.kind=.normal) (v:Value) (w:World):gw (Go.doReturn P main f cs none v w)=w:=by
 unfold Go.doReturn;rw[hk];cases cs with
 |nil=>
  simp only;split
  .rfl
  .split<;>rfl
 |cons c cs=>rfl
theorem iS (main:Bool) (h:f.roundOf=none) (cs:List Frame) (jump:Option Code) (w:World):
 gQ P main f cs jump w=if vD jump then .go {frame:={f with mode:=.returning},callers:=cs,status:=.running,dying:=none} w else .ended (.stuck "exit, goto: no such block or label" (f.pos P)) w:=by
 unfold gQ;split
 .rfl
 .rename_i h2;rw[h]at h2;cases h2
theorem iT (main:Bool) {l:Nat} (h:f.roundOf=some l) (cs:List Frame) (jump:Option Code) (w:World):
 gQ P main f cs jump w=GStep.after (seen P f.fn ((Instr.endRound l jump).runT P w #[]).2) (match((Instr.endRound l jump).runT P w #[]).1 with
 |.ok v w=>Go.doReturn P main f cs none v w
 |.halt _ w=>.ended (.stuck "range over a function: no such loop" (f.pos P)) w):=by
 unfold gQ;split
 .rename_i h2;rw[h]at h2;cases h2
 .rename_i h2;rw[h]at h2;cases h2;rfl
theorem Gh {x y:Option Nat} (h:RR p x y):(x=none/\y=none)\/∃l l',x=some l/\y=some l'/\p l l':=by
 cases h with
 |none=>exact .inl ⟨rfl,rfl⟩
 |some h=>exact .inr ⟨_,_,rfl,rfl,h⟩
theorem cV.leave (hw:WR P S (KS P S) N p w w') {top:List Frame} (hf:FL P S H p (f::top) (f'::da)) (main main':Bool) (hb:Om P S main' aO) (jump:Option Code) (hj:∀c,jump=some c->codeOk P S c=true)
 (hm:ku m w w') (hd:(gw (gQ (ae P F) main' f' (da++aO) jump w')).drawn<=w'.drawn+m):
 cV P S H N p w w' b bs aO (gQ P main f (top++b::bs) jump w) (gQ (ae P F) main' f' (da++aO) jump w'):=by
 have fO:=hf.head;rcases Gh fO.round with⟨h1,h2⟩|⟨l,l',h1,h2,hl⟩
 .rw[iS main h1,iS main' h2];cases hj:vD jump with
  |true=>exact cV.go hw (hf.top (g:={f with mode:=.returning}) (g':={f' with mode:=.returning}) ⟨fO.fn,fO.MY,fO.tmps,fO.todo,fO.defers,.returning,fO.kind,fO.kr,fO.round,fO.xi,fO.nd,fO.wide⟩ ⟨rfl,rfl⟩)
  |false=>exact cV.ended ..
 .rw[iT main' h2]at hd;rw[iT main h1,iT main' h2];rw[jz]at hd
  refine cV.run (SR.endRound hl jump hj) hw hm (ev:=fun r es=>seen P f.fn es) (Oj:=fun r es=>seen (ae P F) f'.fn es) (fun r es e he=>mem_seen he)
   (k:=fun r=>match r with|.ok v w=>Go.doReturn P main f (top++b::bs) none v w|.halt _ w=>.ended (.stuck "range over a function: no such loop" (f.pos P)) w)
   (k':=fun r=>match r with|.ok v w=>Go.doReturn (ae P F) main' f' (da++aO) none v w|.halt _ w=>.ended (.stuck "range over a function: no such loop" (f'.pos (ae P F))) w)
   hd ?_ ?_ ?_ ?_
  .intro r;cases r with
   |ok v w=>simp only;rw[kW _ _ _ fO.kr];exact Nat.le_refl _
   |halt=>exact Nat.le_refl _
  .intro x w1 _;exact⟨_,_,_,rfl⟩
  .intro c n w1 fN x y qs hv _ _;exact cV.doReturn qs.rel (hf.mono (eG _ _ _ _)) main main' hb hv
  .intro c n w1 fN v v' qs hv;exact cV.ended ..
theorem kD.mk' (h:kD P S H p f f') (hl:TL P S (H f.fn) p l l') {ds mv:List Deferred} (hd:DL p ds mv) (Ea:(ds=[]/\mv=[])\/∀a b,¬H f.fn a b):kD P S H p {f with todo:=l,defers:=ds} {f' with todo:=l',defers:=mv}:=
 ⟨h.fn,h.MY,h.tmps,hl,hd,h.mode,h.kind,h.kr,h.round,h.xi,Ea,h.wide⟩
theorem DL.append {l l' m m':List Deferred} (h:DL p l l') (k:DL p m m'):DL p (l++m) (l'++m'):=by
 induction h with
 |nil=>exact k
 |cons g _ ih=>exact .cons g ih
end
theorem WR.no {P:Program} {S:Nat->Bool} {K:Kz} {N:Nat} {p:Pi} {w w':World} (h:WR P S K N p w w') {a:Prop} (x:p.l=true):a:=by rw[h.str]at x;cases x
section
variable {P:Program} {F:Array Func} {S:Nat->Bool} {H:FuncId->Code->Code->Prop} {N:Nat} {p:Pi} {w w':World} {b:Frame} {bs:List Frame} {aO:List Frame}
theorem dZ (main:Bool) (h:f.todo=[]) (cs:List Frame) (w:World):stepG.exec P main true f cs none w=gQ P main f cs none w:=by
 obtain⟨fn,tmps,todo,ds,mode,kind,ro⟩:=f;simp only at h;subst h;cases ro<;>rfl
theorem d8 (main:Bool) (h:f.todo=.code .ret::k) (cs:List Frame) (w:World):stepG.exec P main true f cs none w=gQ P main f cs (some .ret) w:=by
 obtain⟨fn,tmps,todo,ds,mode,kind,ro⟩:=f;simp only at h;subst h;cases ro<;>rfl
theorem dG (main:Bool) (h:f.todo=.code (.exit id)::k) (cs:List Frame) (w:World):
 stepG.exec P main true f cs none w=match exitTo id k with|none=>gQ P main f cs (some (.exit id)) w|some t=>.go {frame:={f with todo:=t},callers:=cs,status:=.running,dying:=none} w:=by
 obtain⟨fn,tmps,todo,ds,mode,kind,ro⟩:=f;simp only at h;subst h;cases ro<;>(unfold stepG.exec;dsimp only;cases exitTo id k<;>rfl)
theorem dH (main:Bool) (h:f.todo=.code (.goto id)::k) (cs:List Frame) (w:World):
 stepG.exec P main true f cs none w=match gotoIn id k with|none=>gQ P main f cs (some (.goto id)) w|some t=>.go {frame:={f with todo:=t},callers:=cs,status:=.running,dying:=none} w:=by
 obtain⟨fn,tmps,todo,ds,mode,kind,ro⟩:=f;simp only at h;subst h;cases ro<;>(unfold stepG.exec;dsimp only;cases gotoIn id k<;>rfl)
theorem cV.exec (hc:Closed P F S H) (hw:WR P S (KS P S) N p w w') (hg:iw P S p) {top:List Frame} (hf:FL P S H p (f::top) (f'::da)) (Ym:∀c c' k k',f.todo=.code c::k->f'.todo=.code c'::k'->¬H f.fn c c') (ic:f'.mode=.run->¬oS S f') (mJ:f'.mode=.run) (main main':Bool) (hb:Om P S main' aO)
 (hm:ku m w w') (hd:(gw (stepG.exec (ae P F) main' true f' (da++aO) none w')).drawn<=w'.drawn+m):
 cV P S H N p w w' b bs aO (stepG.exec P main true f (top++b::bs) none w) (stepG.exec (ae P F) main' true f' (da++aO) none w'):=by
 have fO:=hf.head
 have rk:∀{l l':List Item},TL P S (H f.fn) p l l'->cV P S H N p w w' b bs aO (.go {frame:={f with todo:=l},callers:=top++b::bs,status:=.running,dying:=none} w) (.go {frame:={f' with todo:=l'},callers:=da++aO,status:=.running,dying:=none} w'):=
  fun h=>cV.go hw (hf.top (fO.As h) ⟨rfl,rfl⟩)
 have ht:=fO.todo;have aZ:=fO.eval hg;generalize h1:f.todo=t at ht;generalize h2:f'.todo=t' at ht;cases ht with
 |nil=>
  rw[dZ main' h2]at hd;rw[dZ main h1,dZ main' h2];exact cV.leave hw hf main main' hb none (fun c h=>by cases h) hm hd
 | @cons i i' k k' hi ht=>
   cases hi with
   | @code c c' M0=>
     cases M0 with
     |hole hh=>exact absurd hh (Ym _ _ _ _ h1 h2)
     |seq ha hb=>unfold stepG.exec;simp only[h1,h2];exact rk (.cons (.code ha) (.cons (.code hb) ht))
     |block id ha=>unfold stepG.exec;simp only[h1,h2];exact rk (.cons (.code ha) (.cons (.inBlock id) ht))
     |loop ha=>unfold stepG.exec;simp only[h1,h2];exact rk (.cons (.code ha) (.cons (.inLoop ha) ht))
     |refuse why c2 hr=>unfold stepG.exec;simp only[h1];exact cV.ended ..
     | @cond x a a' c c' hx ha hb=>
       have hx:=aZ.at hx;unfold stepG.exec;simp only[h1,h2];revert hx;generalize f.eval x=v;generalize f'.eval x=v';intro hx;cases hx<;>first|exact cV.ended .. |skip
       rename_i bo;refine rk (.cons (.code ?_) ht);cases bo
       .exact hb
       .exact ha
     |same fQ FV=>
      cases c with
      |ret=>
       rw[d8 main' h2]at hd;rw[d8 main h1,d8 main' h2];exact cV.leave hw hf main main' hb (some .ret) (fun c h=>by cases h;rfl) hm hd
      |exit id=>
       rw[dG main' h2]at hd;rw[dG main h1,dG main' h2];rcases Au id ht with⟨e1,e2⟩|⟨j,j',e1,e2,hj⟩
       .rw[e2]at hd;rw[e1,e2];exact cV.leave hw hf main main' hb (some (.exit id)) (fun c h=>by cases h;rfl) hm hd
       .rw[e1,e2];exact rk hj
      |goto id=>
       rw[dH main' h2]at hd;rw[dH main h1,dH main' h2];rcases Av id ht with⟨e1,e2⟩|⟨j,j',e1,e2,hj⟩
       .rw[e2]at hd;rw[e1,e2];exact cV.leave hw hf main main' hb (some (.goto id)) (fun c h=>by cases h;rfl) hm hd
       .rw[e1,e2];exact rk hj
      |skip=>
       unfold stepG.exec;simp only[h1,h2];exact rk ht
      |label l=>
       unfold stepG.exec;simp only[h1,h2];exact rk ht
      |seq a c=>
       simp only[codeOk,cG,Bool.and_eq_true]at fQ FV;unfold stepG.exec;simp only[h1,h2];exact rk (.cons (.code (.same fQ.1 (FV.imp And.left fun x=>x))) (.cons (.code (.same fQ.2 (FV.imp And.right fun x=>x))) ht))
      |cond x a c=>
       simp only[codeOk,cG,Bool.and_eq_true]at fQ FV;have hx:=aZ.at fQ.1.1;unfold stepG.exec;simp only[h1,h2];revert hx;generalize f.eval x=v;generalize f'.eval x=v';intro hx;cases hx<;>first|exact cV.ended .. |skip
       rename_i bo;refine rk (.cons (.code ?_) ht);cases bo
       .exact .same fQ.2 (FV.imp And.right fun x=>x)
       .exact .same fQ.1.2 (FV.imp And.left fun x=>x)
      |block id c=>
       unfold stepG.exec;simp only[h1,h2];exact rk (.cons (.code (.same fQ FV)) (.cons (.inBlock id) ht))
      |loop c=>
       unfold stepG.exec;simp only[h1,h2];exact rk (.cons (.code (.same fQ FV)) (.cons (.inLoop (.same fQ FV)) ht))
      |scope c=>
       unfold stepG.exec;simp only[h1,h2];exact rk (.cons (.code (.same fQ FV)) (.cons (.inScope fQ FV) ht))
      |refuse why=>unfold stepG.exec;simp only[h1,h2];exact cV.ended ..
      |region id ops draw=>
       have rh:∀o∈ops,(nB P S o.op||fw S o.op)=true:=fun o ho=>(Array.all_eq_true_iff_forall_mem.1 fQ) o ho;unfold stepG.exec at hd⊢;simp only[h1,h2]at hd⊢;cases draw with
       |false=>exact rk (.cons (.inRegion _ rh) ht)
       |true=>
        simp only[Bool.not_true,Bool.false_eq_true,if_false,choose,Sem.run,Question.forced,Question.cut]at hd⊢
        have DY:0<m:=by
         simp only[gw]at hd;omega
        have ht0:=hm 0 DY (.order f'.fn id);simp only[Nat.add_zero]at ht0;have ht1:w.tape w.drawn (.order f.fn id)=w'.tape w'.drawn (.order f'.fn id):=by rw[fO.fn];exact ht0
        rw[ht1];have kK:WR P S (KS P S) N p {w with drawn:=w.drawn+1} {w' with drawn:=w'.drawn+1}:=⟨hw.inj,hw.blk,hw.low,hw.fix,hw.fq,hw.jt,hw.str,hw.tn⟩
        have Cx:bY P S (KS P S) N p w w' 0 1 {w with drawn:=w.drawn+1} {w' with drawn:=w'.drawn+1}:=
         ⟨by rw[bz];exact kK,rfl,rfl,rfl,rfl,rfl,rfl,rfl,rfl,fun _ _ _=>rfl⟩
        refine .inr (.inr ⟨0,1,_,_,#[],#[],Cx,by simp,.inl ⟨_,_,top,da,?_,rfl,rfl⟩⟩);rw[bz];exact hf.top (fO.As (.cons (.inRegion _ rh) ht)) ⟨rfl,rfl⟩
      |rangeFunc x ps a c=>
       simp only[codeOk,Bool.and_eq_true]at fQ;unfold stepG.exec at hd⊢;simp only[h1,h2]at hd⊢;rw[jz]at hd;have ic:∀a b,¬H f.fn a b:=FV.resolve_left (by simp[cG]);have hz:KS P S (.label (100000+f.fn)):=Ku ((hc.xi f.fn fO.MY).1 ic)
       refine cV.run (SR.enterLoop fO.fn fO.MY hz fO.tmps ps fQ.1.2 fQ.2 fO.round) hw hm (ev:=fun r es=>seen P f.fn es) (Oj:=fun r es=>seen (ae P F) f'.fn es) (fun r es e he=>mem_seen he)
        (k:=fun r=>match r with
          |.ok (l,mark) w=>stepG.apply P true {f with todo:=.inRangeFunc l::k,defers:=mark++f.defers} (top++b::bs) none
             (do let d<-resolve (Frame.eval {f with todo:=.inRangeFunc l::k,defers:=mark++f.defers}) {callee:=.value x,args:=#[.const (.func (.yield l) #[] #[])],argTypes:=#[]} 0;invoke d.target d.args) w
          |.halt _ w=>.ended (.stuck "range over a function: no such loop" (f.pos P)) w)
        (k':=fun r=>match r with
          |.ok (l,mark) w=>stepG.apply (ae P F) true {f' with todo:=.inRangeFunc l::k',defers:=mark++f'.defers} (da++aO) none
             (do let d<-resolve (Frame.eval {f' with todo:=.inRangeFunc l::k',defers:=mark++f'.defers}) {callee:=.value x,args:=#[.const (.func (.yield l) #[] #[])],argTypes:=#[]} 0;invoke d.target d.args) w
          |.halt _ w=>.ended (.stuck "range over a function: no such loop" (f'.pos (ae P F))) w)
        ?_ ?_ ?_ ?_ ?_
       .exact hd
       .intro r;cases r with
        |ok x w1=>exact Nat.le_trans (mF (ae P F) _ w1 #[]) (pN ..)
        |halt=>exact Nat.le_refl _
       .intro x w1 _;exact⟨_,_,_,rfl⟩
       .intro cc n w1 fN y y' qs hy Cx Eb;obtain⟨l,mark⟩:=y;obtain⟨l',rm⟩:=y';have hle:=eG p w.heap.size w'.heap.size cc;have SM:=(fO.mono hle).mk' (.cons (.nC hy.1 ic) (ht.mono hle)) (hy.2.append (fO.defers.mono hle)) (.inr ic);refine cV.apply hc qs.rel ((hf.mono hle).top SM ⟨rfl,rfl⟩) Cx ?_ Eb;refine SR.kU hc.mI ?_ ?_
        .exact(SM.eval (hg.mono hle)).at fQ.1.1
        .have:=AR.one (S:=S) (VR.yield (S:=S) hy.1);simpa [Frame.eval]using this
       .intro cc n w1 fN v v' qs hv;exact cV.ended ..
   | @inBlock id=>unfold stepG.exec;simp only[h1,h2];exact rk ht
   | @inScope c fQ _=>unfold stepG.exec;simp only[h1,h2];exact rk ht
   | @inLoop c c' M0=>unfold stepG.exec;simp only[h1,h2];exact rk (.cons (.code M0) (.cons (.inLoop M0) ht))
   | @nC l l' hl _=>unfold stepG.exec;simp only[h1,h2];exact cV.ended ..
   | @begin=>
     unfold stepG.exec at hd⊢;simp only[h1,h2]at hd⊢;refine cV.apply hc hw hf hm ?_ hd;rcases Gh fO.round with⟨e1,e2⟩|⟨l,l',e1,e2,hl⟩
     .rw[e1,e2];exact(SR.stuck (α:=Unit) (β:=Unit) (Q:=QE Unit)).az fun q _ hq=>SR.pure .skip
     .rw[e1,e2];exact(SR.beginRound hl).az fun q _ hq=>SR.pure .skip
   | @jy l l' hl ic=>
     unfold stepG.exec at hd⊢;simp only[h1,h2]at hd⊢;rw[jz]at hd
     refine cV.run (SR.endLoop hl) hw hm (ev:=fun r es=>seen P f.fn es) (Oj:=fun r es=>seen (ae P F) f'.fn es) (fun r es e he=>mem_seen he)
      (k:=fun r=>match r with
        |.ok jump w=>.go {frame:={f with todo:=(jump.map Item.code).toList++k},callers:=top++b::bs,status:=.running,dying:=none} w
        |.halt (.panic v) w=>.go {frame:=f.raise [{v,recovered:=false}],callers:=top++b::bs,status:=.running,dying:=none} w
        |.halt _ w=>.ended (.stuck "range over a function: no such loop" (f.pos P)) w)
      (k':=fun r=>match r with
        |.ok jump w=>.go {frame:={f' with todo:=(jump.map Item.code).toList++k'},callers:=da++aO,status:=.running,dying:=none} w
        |.halt (.panic v) w=>.go {frame:=f'.raise [{v,recovered:=false}],callers:=da++aO,status:=.running,dying:=none} w
        |.halt _ w=>.ended (.stuck "range over a function: no such loop" (f'.pos (ae P F))) w)
      hd ?_ ?_ ?_ ?_
     .intro r;cases r with
      |ok x w1=>exact Nat.le_refl _
      |halt x w1=>cases x<;>exact Nat.le_refl _
     .intro x w1 hx;cases x<;>first|exact⟨_,_,_,rfl⟩|exact absurd hx id
     .intro cc n w1 fN y y' qs hy Cx Eb;have hle:=eG p w.heap.size w'.heap.size cc;obtain⟨rfl,hy⟩:=hy;refine cV.go qs.rel ((hf.mono hle).top ((fO.mono hle).As ?_) ⟨rfl,rfl⟩);cases y with
      |none=>exact ht.mono hle
      |some c=>exact .cons (.code (.same (hy c rfl) (.inr ic))) (ht.mono hle)
     .intro cc n w1 fN v v' qs hv;have hle:=eG p w.heap.size w'.heap.size cc;exact cV.go qs.rel ((hf.mono hle).top ((fO.mono hle).raise (.cons false false hv .nil)) (iR f _))
   | @inRegion ops is rh=>
     cases is with
     |nil=>unfold stepG.exec;simp only[h1,h2];exact rk ht
     |cons i is=>
      unfold stepG.exec at hd⊢;simp only[h1,h2]at hd⊢;have hy:∀j,yielded ops f'.tmps j=yielded ops f.tmps j:=fun j=>(pM ops fO.tmps j).symm;have hyy:(yielded ops f'.tmps)=(yielded ops f.tmps):=funext hy;rw[hyy]at hd⊢;split at hd
      .rename_i kX;rw[if_pos kX,if_pos kX];have Gi:f.oper?=ops[i]?:=by unfold Frame.oper?;rw[h1]
       have CF:f'.oper?=ops[i]?:=by unfold Frame.oper?;rw[h2]
       unfold stepG.oper at hd⊢;rw[Gi,CF];rw[CF]at hd;cases ho:ops[i]? with
       |none=>exact cV.ended ..
       |some o=>
        rw[ho]at hd
        have Oo:nB P S o.op=true:=by
         have h0:=rh o (Array.mem_of_getElem? ho);rw[Bool.or_eq_true]at h0;refine h0.resolve_right fun h3=>ic mJ ⟨mJ,o,ops,i,is,_,h2,ho,h3,?_⟩;rw[hyy];rw[ho]at kX;simpa using kX
        have Ea:∀c,o.op≠ .defer c:=by
         intro c FW;rw[FW]at Oo;simp[nB]at Oo
        have key:∀(P:Program) (fr:Frame) (cs:List Frame) (w:World),(match fr.roundOf,o.op with
         |some l,.defer c=>stepG.apply P true fr cs none (do Instr.deferInRound l (<-resolve fr.eval c o.type);pure .skip) w
         |_,_=>stepG.apply P true fr cs none (execOp fr.eval o) w)=stepG.apply P true fr cs none (execOp fr.eval o) w:=by
         intro P fr cs w;split
         .rename_i hx;exact absurd hx (Ea _)
         .rfl
        have Yn:(gw (stepG.apply (ae P F) true f' (da++aO) none (execOp f'.eval o) w')).drawn<=w'.drawn+m:=by
         rw[<-key (ae P F) f' (da++aO) w'];exact hd
        have e1:=key P f (top++b::bs) w;have e2:=key (ae P F) f' (da++aO) w';refine Eq.mpr (congr (congrArg (cV P S H N p w w' b bs aO) e1) e2) ?_;exact cV.apply hc hw hf hm (SR.execOp hw.no hc.hQ hc.dt hc.mI aZ o Oo hw.no hw.no) Yn
      .rename_i kX;rw[if_neg kX,if_neg kX];exact cV.go hw (hf.top (fO.finish VR.undef) (du f _))
end
section
variable {P:Program} {F:Array Func} {S:Nat->Bool} {H:FuncId->Code->Code->Prop} {N:Nat} {p:Pi} {w w':World} {b:Frame} {bs:List Frame} {aO:List Frame}
theorem nE {H:Code->Code->Prop} (h:TL P S H p l l'):∀d x r s k,l≠ .call d x r s::k/\l'≠ .call d x r s::k:=by
 intro d x r s k;cases h with
 |nil=>exact⟨by simp,by simp⟩
 |cons hi ht=>cases hi<;>exact⟨by simp,by simp⟩
theorem mK (h:∀d x r s k,f.todo≠ .call d x r s::k):f.catches P=false:=by
 unfold Frame.catches;split
 .rename_i hh;exact absurd hh (h _ _ _ _ _)
 .rfl
theorem cV.unwind (hc:Closed P F S H) (hw:WR P S (KS P S) N p w w') {top:List Frame} (hf:FL P S H p (f::top) (f'::da)) (main main':Bool) (hb:Om P S main' aO)
 (hm:ku m w w') (hd:(gw (Go.unwind (ae P F) main' f' (da++aO) none w')).drawn<=w'.drawn+m):
 cV P S H N p w w' b bs aO (Go.unwind P main f (top++b::bs) none w) (Go.unwind (ae P F) main' f' (da++aO) none w'):=by
 have fO:=hf.head;have FX:=fO.defers;generalize h1:f.defers=t at FX;generalize h2:f'.defers=t' at FX;unfold Go.unwind at hd⊢;rw[h1,h2];rw[h2]at hd;cases FX with
 | @cons r r' l l' hr hl=>
   simp only[jz]at hd⊢
   refine cV.run (SR.takeDeferred hr) hw hm (ev:=fun r es=>seen P f.fn es) (Oj:=fun r es=>seen (ae P F) f'.fn es) (fun r es e he=>mem_seen he)
    (k:=fun r=>match r with|.ok calls w=>.go {frame:={f with defers:=calls++l},callers:=top++b::bs,status:=.running,dying:=none} w|.halt _ w=>.ended (.stuck "the deferred calls of a range-over-func loop have been taken" (f.pos P)) w)
    (k':=fun r=>match r with|.ok calls w=>.go {frame:={f' with defers:=calls++l'},callers:=da++aO,status:=.running,dying:=none} w|.halt _ w=>.ended (.stuck "the deferred calls of a range-over-func loop have been taken" (f'.pos (ae P F))) w)
    hd ?_ ?_ ?_ ?_
   .intro r;cases r<;>exact Nat.le_refl _
   .intro x w1 _;exact⟨_,_,_,rfl⟩
   .intro c n w1 fN y y' qs hy _ _;obtain⟨rfl,rfl⟩:=hy;have hle:=eG p w.heap.size w'.heap.size c;exact cV.go qs.rel ((hf.mono hle).top ((fO.mono hle).mk' (fO.todo.mono hle) (hl.mono hle) (.inr (fO.nd.resolve_left fun x=>by rw[h1]at x;cases x.1))) ⟨rfl,rfl⟩)
   .intro c n w1 fN v v' qs hv;exact cV.ended ..
 |nil=>
  simp only at hd⊢;have mJ:=fO.mode;generalize g1:f.mode=o at mJ;generalize g2:f'.mode=o' at mJ;rw[g2]at hd;cases mJ with
  |run=>exact cV.ended ..
  | @panicking l l' hl=>
    simp only;have n1:=mK (P:=P) (f:=f) fun d x r s k=>(nE fO.todo d x r s k).1;have n2:=mK (P:=ae P F) (f:=f') fun d x r s k=>(nE fO.todo d x r s k).2;simp only[n1,n2,Bool.false_eq_true,if_false];cases hf with
    |one h r=>exact cV.raised hl ..
    |cons h t=>
     cases t with
     |one h r=>exact cV.go hw (.one (h.raise hl) ⟨(iR _ _).1.trans r.1,by rw[(iR _ _).2];exact r.2⟩)
     |cons h t=>exact cV.go hw (.cons (h.raise hl) t)
  |returning=>
   simp only at hd⊢;rw[<-fO.fn]at hd⊢;rcases hc.body f.fn fO.MY with⟨e1,e2⟩|⟨fn,kL,_,_,e1,e2,_,_,_,_,_,_,e3⟩
   .rw[e1,e2];exact cV.doReturn hw hf main main' hb (fO.tmps.getD 0 VR.undef)
   .rw[e1,e2];rw[e2]at hd;simp only[jz]at hd⊢
    refine cV.run (SR.results e3 fO.tmps) hw hm (ev:=fun r es=>seen P f.fn es) (Oj:=fun r es=>seen (ae P F) f.fn es) (fun r es e he=>mem_seen he)
     (k:=fun r=>match r with|.ok v w=>Go.doReturn P main f (top++b::bs) none v w|.halt (.stuck s) w=>.ended (.stuck s (f.pos P)) w|.halt _ w=>.ended (.stuck "return: the result variables cannot be read" (f.pos P)) w)
     (k':=fun r=>match r with|.ok v w=>Go.doReturn (ae P F) main' f' (da++aO) none v w|.halt (.stuck s) w=>.ended (.stuck s (f'.pos (ae P F))) w|.halt _ w=>.ended (.stuck "return: the result variables cannot be read" (f'.pos (ae P F))) w)
     hd ?_ ?_ ?_ ?_
    .intro r;cases r with
     |ok v w=>simp only;rw[kW _ _ _ fO.kr];exact Nat.le_refl _
     |halt x=>cases x<;>exact Nat.le_refl _
    .intro x w1 hx;cases x<;>exact⟨_,_,_,rfl⟩
    .intro c n w1 fN x y qs hv _ _;exact cV.doReturn qs.rel (hf.mono (eG _ _ _ _)) main main' hb hv
    .intro c n w1 fN v v' qs hv;exact cV.ended ..
theorem cV.step (hc:Closed P F S H) (hw:WR P S (KS P S) N p w w') (hg:iw P S p) {top:List Frame} (hf:FL P S H p (f::top) (f'::da)) (Ym:∀c c' k k',f.mode=.run->f.todo=.code c::k->f'.todo=.code c'::k'->¬H f.fn c c') (ic:¬oS S f') (main main':Bool) (hb:Om P S main' aO)
 (hm:ku m w w') (hd:(gw (stepG (ae P F) main' {frame:=f',callers:=da++aO,status:=.running,dying:=none} w')).drawn<=w'.drawn+m):
 cV P S H N p w w' b bs aO (stepG P main {frame:=f,callers:=top++b::bs,status:=.running,dying:=none} w)
  (stepG (ae P F) main' {frame:=f',callers:=da++aO,status:=.running,dying:=none} w'):=by
 have mJ:=hf.head.mode
 have aW:∀(P:Program) (main:Bool) (f:Frame) (cs:List Frame) (w:World),f.mode=.run->stepG P main {frame:=f,callers:=cs,status:=.running,dying:=none} w=stepG.exec P main true f cs none w:=by
  intro P main f cs w h;unfold stepG;simp only[h]
 have Yo:∀(P:Program) (main:Bool) (f:Frame) (cs:List Frame) (w:World),f.mode≠ .run->stepG P main {frame:=f,callers:=cs,status:=.running,dying:=none} w=Go.unwind P main f cs none w:=by
  intro P main f cs w h;unfold stepG;simp only
 by_cases h:f.mode=.run
 .have h':f'.mode=.run:=by
   rw[h]at mJ;generalize f'.mode=o at mJ;cases mJ;rfl
  rw[aW _ _ _ _ _ h']at hd;rw[aW _ _ _ _ _ h,aW _ _ _ _ _ h'];exact cV.exec hc hw hg hf (fun c c' k k'=>Ym c c' k k' h) (fun _=>ic) h' main main' hb hm hd
 .have h':f'.mode≠ .run:=by
   intro e;rw[e]at mJ;generalize hx:f.mode=o at mJ;cases mJ;exact h hx
  rw[Yo _ _ _ _ _ h']at hd;rw[Yo _ _ _ _ _ h,Yo _ _ _ _ _ h'];exact cV.unwind hc hw hf main main' hb hm hd
end
def new (w w1:World):Nat->Prop:=fun r=>w.heap.size<=r/\r<w1.heap.size
def aG (kn:Nat->Prop) (w w1:World):Nat->Prop:=fun r=>kn r\/new w w1 r
structure Env (kn:Nat->Prop) (w w2:World):Prop where
 size:w.heap.size<=w2.heap.size
 same:∀r,kn r->w2.heap[r]?=w.heap[r]?
 os:w2.os=w.os
 out:w2.output=w.output
theorem Env.refl (kn:Nat->Prop) (w:World):Env kn w w:=⟨Nat.le_refl _,fun _ _=>rfl,rfl,rfl⟩
theorem Env.trans {w:World} (h:Env kn w w1) (k:Env kn w1 w2):Env kn w w2:=
 ⟨Nat.le_trans h.1 k.1,fun r hr=>(k.2 r hr).trans (h.2 r hr),k.os.trans h.os,k.out.trans h.out⟩
def CG (kn own:Nat->Prop) (e:Event):Prop:=
 e=noRoomEvent\/(e.sync=false/\∃r,kn r/\((∃a:Addr,e.loc=.cell a/\a.block=r)\/e.loc=.obj r)/\(e.write=true->own r))
structure Fair (kn own:Nat->Prop) (w w1:World) (es:Array Event):Prop where
 size:w.heap.size<=w1.heap.size
 others:∀r,r<w.heap.size->¬own r->w1.heap[r]?=w.heap[r]?
 os:w1.os=w.os
 out:w1.output=w.output
 tape:w1.tape=w.tape
 drawn:w.drawn<=w1.drawn
 ev:∀e∈es,CG (aG kn w w1) (aG own w w1) e
abbrev il (f:Frame) (cs:List Frame):Goroutine:={frame:=f,callers:=cs,status:=.running,dying:=none}
abbrev nF:=(Nat->Prop)->(Nat->Prop)->Value->World->Prop
abbrev kE:=(Nat->Prop)->(Nat->Prop)->Frame->World->Prop
abbrev dv:=(Nat->Prop)->(Nat->Prop)->Frame->World->Value->World->(Nat->Prop)->(Nat->Prop)->Prop
abbrev Rp:=(Nat->Prop)->(Nat->Prop)->Frame->List Frame->World->Prop
def Body (Q:Program) (main:Bool) (base:List Frame) (Fin:nF) (HA:kE) (HP:dv) (I:Rp):Rp:=fun kn own f top w=>
 ∀w2,Env kn w w2->
  (∃w3 es f2 nG,stepG Q main (il f (top++base)) w2=.go (il f2 (nG++base)) w3 es/\Fair kn own w2 w3 es/\I (aG kn w2 w3) (aG own w2 w3) f2 nG w3)\/
  (∃w3 es v b bs,base=b::bs/\stepG Q main (il f (top++base)) w2=.go (il (b.finish v) bs) w3 es/\Fair kn own w2 w3 es/\Fin (aG kn w2 w3) (aG own w2 w3) v w3)\/
  (∃w3 es v,base=[]/\stepG Q main (il f (top++base)) w2=.ended (.done v) w3 es/\Fair kn own w2 w3 es/\Fin (aG kn w2 w3) (aG own w2 w3) v w3)\/
  (HA kn own f w2/\∃c rest,top=c::rest/\∀v w3 eu bq,HP kn own f w2 v w3 eu bq->I eu bq (c.finish v) rest w3)
def CT (Q:Program) (main:Bool) (base:List Frame) (Fin:nF) (HA:kE) (HP:dv):Rp:=fun kn own f top w=>
 ∀I:Rp,(∀kn own f top w,Body Q main base Fin HA HP I kn own f top w->I kn own f top w)->I kn own f top w
section
variable {Q:Program} {main:Bool} {base:List Frame} {Fin:nF} {HA:kE} {HP:dv}
theorem Body.mono {I J:Rp} (h:∀kn own f top w,I kn own f top w->J kn own f top w) {top:List Frame} {w:World} (x:Body Q main base Fin HA HP I kn own f top w):Body Q main base Fin HA HP J kn own f top w:=by
 intro w2 he;rcases x w2 he with⟨w3,es,f2,nG,h1,h2,h3⟩|x|x|⟨h1,c,rest,hc,h2⟩
 .exact .inl ⟨w3,es,f2,nG,h1,h2,h _ _ _ _ _ h3⟩
 .exact .inr (.inl x)
 .exact .inr (.inr (.inl x))
 .exact .inr (.inr (.inr ⟨h1,c,rest,hc,fun v w3 eu bq hp=>h _ _ _ _ _ (h2 v w3 eu bq hp)⟩))
theorem CT.mk {kn own:Nat->Prop} {f:Frame} {top:List Frame} {w:World} (h:Body Q main base Fin HA HP (CT Q main base Fin HA HP) kn own f top w):CT Q main base Fin HA HP kn own f top w:=
 fun I hI=>hI _ _ _ _ _ (h.mono fun _ _ _ _ _ x=>x I hI)
theorem CT.ind {I:Rp} (hI:∀kn own f top w,Body Q main base Fin HA HP (fun kn own f top w=>I kn own f top w/\CT Q main base Fin HA HP kn own f top w) kn own f top w->I kn own f top w)
 {top:List Frame} {w:World} (h:CT Q main base Fin HA HP kn own f top w):I kn own f top w:=
 (h (fun kn own f top w=>I kn own f top w/\CT Q main base Fin HA HP kn own f top w) fun _ _ _ _ _ x=>⟨hI _ _ _ _ _ x,CT.mk (x.mono fun _ _ _ _ _ y=>y.2)⟩).1
end
def jB (p:Pi):Nat->Prop:=fun r'=>∃r,p r r'
def bM (N:Nat) (p:Pi):Nat->Prop:=fun r'=>∃r,p r r'/\N<=r
theorem Kv (p:Pi) (L C c:Nat):jB (ext p L C c)=fun r'=>jB p r'\/(C<=r'/\r'<C+c):=by
 funext r';apply propext;constructor
 .rintro⟨r,h|⟨k,hk,h1,h2⟩⟩
  .exact .inl ⟨r,h⟩
  .exact .inr ⟨by omega,by omega⟩
 .rintro(⟨r,h⟩|⟨h1,h2⟩)
  .exact⟨r,.inl h⟩
  .exact⟨L+(r'-C),.inr ⟨r'-C,by omega,rfl,by omega⟩⟩
theorem Ec {N:Nat} (p:Pi) {L:Nat} (hN:N<=L) (C c:Nat):bM N (ext p L C c)=fun r'=>bM N p r'\/(C<=r'/\r'<C+c):=by
 funext r';apply propext;constructor
 .rintro⟨r,h|⟨k,hk,h1,h2⟩,hr⟩
  .exact .inl ⟨r,h,hr⟩
  .exact .inr ⟨by omega,by omega⟩
 .rintro(⟨r,h,hr⟩|⟨h1,h2⟩)
  .exact⟨r,.inl h,hr⟩
  .exact⟨L+(r'-C),.inr ⟨r'-C,by omega,rfl,by omega⟩,by omega⟩
section
variable {P:Program} {S:Nat->Bool} {N:Nat} {p:Pi}
theorem WR.env {w:World} (h:WR P S (KS P S) N p lw w) (he:Env (jB p) w w2):WR P S (KS P S) N p lw w2:=
 ⟨h.inj,fun r r' hr=>by
   obtain⟨o,o',h1,h2,h3⟩:=h.blk r r' hr;exact⟨o,o',h1,(he.2 r' ⟨r,hr⟩).trans h2,h3⟩,h.low,h.fix,h.fq,Nat.le_trans h.jt he.1,h.str,h.tn⟩
theorem WR.tape {w:World} (h:WR P S (KS P S) N p lw w) (T:Nat->Question->Nat) (d:Nat):WR P S (KS P S) N p {lw with tape:=T,drawn:=d} w:=
 ⟨h.inj,h.blk,h.low,h.fix,h.fq,h.jt,h.str,h.tn⟩
theorem bY.fair {w Wr:World} (hw:WR P S (KS P S) N p lw w) (h:bY P S (KS P S) N p lw w c n Wr w1) (he:∀e∈es,JD N (ext p lw.heap.size w.heap.size c) e):
 Fair (jB p) (bM N p) w w1 es/\jB (ext p lw.heap.size w.heap.size c)=aG (jB p) w w1/\bM N (ext p lw.heap.size w.heap.size c)=aG (bM N p) w w1:=by
 have e1:jB (ext p lw.heap.size w.heap.size c)=aG (jB p) w w1:=by
  rw[Kv];unfold aG new;rw[h.kN]
 have e2:bM N (ext p lw.heap.size w.heap.size c)=aG (bM N p) w w1:=by
  rw[Ec p hw.low];unfold aG new;rw[h.kN]
 refine⟨⟨by rw[h.kN];omega,fun r hr hn=>h.others r hr fun s hs=>?_,h.X6,h.N8,h.Cv,by rw[h.kO];omega,fun e hx=>?_⟩,e1,e2⟩
 .rcases Nat.lt_or_ge s N with au|xG
  .exact au
  .exact absurd ⟨s,hs,xG⟩ hn
 .rw[<-e1,<-e2];rcases he e hx with h0|⟨h1,r,r',h2,h3,h4⟩
  .exact .inl h0
  .exact .inr ⟨h1,r',⟨r,h2⟩,h3,fun xS=>⟨r,h2,h4 xS⟩⟩
end
def Base (P:Program):Frame:={fn:=P.funcs.size,tmps:=#[],todo:=[.extern "" #[],.code (.refuse "")],defers:=[⟨.nil,#[]⟩],mode:=.run,kind:=.normal}
theorem dp (P:Program) (v:Value):(Base P).finish v={fn:=P.funcs.size,tmps:=#[v],todo:=[.code (.refuse "")],defers:=[⟨.nil,#[]⟩],mode:=.run,kind:=.normal}:=rfl
theorem fX (P:Program) (v:Value) (w:World):∃o w1,step P (lone ((Base P).finish v) [] w)=.ended o w1:=⟨_,_,step_lone_ended (by rw[dp];rfl)⟩
theorem eP (P:Program) (ch:List PanicEntry) (w:World):∃o w1,step P (lone ((Base P).raise ch) [] w)=.ended o w1:=⟨_,_,step_lone_ended (by rfl)⟩
theorem eJ {cs ds:List Frame} {w v:World} (h:lone f cs w=lone g ds v):f=g/\cs=ds/\w=v:=by
 have h1:(lone f cs w).gs[0]! =(lone g ds v).gs[0]!:=by rw[h]
 have h2:(lone f cs w).world=(lone g ds v).world:=by rw[h]
 have h3:(il f cs)=(il g ds):=h1;simp only[Goroutine.mk.injEq]at h3;exact⟨h3.1,h3.2.1,h2⟩
def Alike (w w':World):Prop:=∀r:Nat,w'.heap[r]?=w.heap[r]? \/((∃d,w.heap[r]?=some (Obj.deferred d))/\∃d,w'.heap[r]?=some (Obj.deferred d))
theorem Alike.refl (w:World):Alike w w:=fun _=>.inl rfl
theorem Alike.trans {a b c:World} (h:Alike a b) (k:Alike b c):Alike a c:=fun r=>by
 rcases k r with k|⟨⟨d,k1⟩,k2⟩
 .rcases h r with h|⟨h1,d,h2⟩
  .exact .inl (k.trans h)
  .exact .inr ⟨h1,d,k.trans h2⟩
 .rcases h r with h|⟨h1,_⟩
  .exact .inr ⟨⟨d,h▸k1⟩,k2⟩
  .exact .inr ⟨h1,k2⟩
theorem rn (P:Program) (n:Nat) (m m1:Machine) (h:runN P n m=.next m1):runN P (n+1) m=step P m1:=by
 rw[runN_add,h];simp only[runN];split<;>simp_all
section
variable {P:Program} {S:Nat->Bool} {H:FuncId->Code->Code->Prop} {N:Nat} {p:Pi}
def FD (P:Program) (S:Nat->Bool) (H:FuncId->Code->Code->Prop) (p:Pi) (g:Frame):Prop:=(∃d,DL p g.defers d)/\∀d x r s k,g.todo≠ .call d x r s::k
theorem FL.fd {l l':List Frame} (h:FL P S H p l l'):∀g∈l,FD P S H p g:=by
 induction h with
 |one h r=>intro g hg;obtain rfl:g=_:=by simpa using hg
           exact⟨⟨_,h.defers⟩,fun d x r s k=>(nE h.todo d x r s k).1⟩
 |cons h t ih=>
  intro g hg;rcases List.mem_cons.1 hg with rfl|hg
  .exact⟨⟨_,h.defers⟩,fun d x r s k=>(nE h.todo d x r s k).1⟩
  .exact ih g hg
theorem vE (g:Frame) (ch:List PanicEntry):(g.raise ch).defers=g.defers/\(g.raise ch).todo=g.todo:=by
 unfold Frame.raise;split<;>exact⟨rfl,rfl⟩
theorem raise_mode (g:Frame) {ch:List PanicEntry} {e:PanicEntry} (h:ch.head?=some e):∃CH,(g.raise ch).mode=.panicking CH/\CH.head?=some e:=by
 unfold Frame.raise;split
 .refine⟨_,rfl,?_⟩;cases ch with
  |nil=>cases h
  |cons x l=>exact h
 .exact⟨_,rfl,h⟩
theorem rp:∀(n:Nat) (h:Frame) (hs:List Frame) (v w2:World) (ch:List PanicEntry) (e0:PanicEntry),h.mode=.panicking ch->ch.head?=some e0->FD P S H p h->(∀g∈hs,FD P S H p g)->
 WR P S (KS P S) N p v w2->∀(fr:Frame) (w1:World),runN P n (lone h (hs++[Base P]) v)=.next (lone fr [Base P] w1)->
 ((∃x,fr.leaving P w1 (.returned x))\/∃CH,fr.leaving P w1 (.panicked CH))->∃CH,fr.mode=.panicking CH/\CH.head?=some e0/\Alike v w1:=by
 intro n;induction n with
 |zero=>
  intro h hs v w2 ch e0 hm he hd FX hw fr w1 hr hl;simp only[runN,Stepped.next.injEq]at hr;obtain⟨rfl,_,rfl⟩:=eJ hr;exact⟨ch,hm,he,Alike.refl _⟩
 |succ n ih=>
  intro h hs v w2 ch e0 hm he hd FX hw fr w1 hr hl;obtain⟨⟨d',Yp⟩,CI⟩:=hd
  have bF:stepG P true {frame:=h,callers:=hs++[Base P],status:=.running,dying:=none} v=Go.unwind P true h (hs++[Base P]) none v:=by
   unfold stepG;simp only[hm]
  generalize hdd:h.defers=ds at Yp;cases Yp with
  | @cons r r' l l' Oq Ws=>
    obtain⟨o,o',ho,JH,hc⟩:=hw.blk r r' Oq
    have rq:(∃x,(Instr.takeDeferred r).run P v=.halt x v)->False:=by
     rintro⟨x,hx⟩
     have:step P (lone h (hs++[Base P]) v)=.ended _ _:=step_lone_ended (by
      rw[bF];unfold Go.unwind;simp only[hdd,Sem.runT_eq,hx,GStep.bare_after];rfl)
     simp only[runN,this]at hr;cases hr
    have Gj:(∀d,o≠ .deferred (some d))->False:=fun hn=>rq (by
     simp only[Instr.takeDeferred,getObj,bind,Sem.bind,Sem.run,ho];cases o<;>first|exact⟨_,rfl⟩|(rename_i d;cases d<;>first|exact⟨_,rfl⟩|exact absurd rfl (hn _)))
    rcases hc with⟨_,c,c',el,fz,rfl,rfl,_⟩|⟨hN,qk⟩
    .exact(Gj fun d h=>by cases h).elim
    .cases qk with
     |dK=>
      have aW:(Instr.takeDeferred r).run P v=.ok [] {v with heap:=v.heap.setIfInBounds r (.deferred none)}:=by
       simp[Instr.takeDeferred,getObj,setObj,bind,Sem.bind,Sem.run,ho,pure]
      have bJ:step P (lone h (hs++[Base P]) v)=.next (lone {h with defers:=[]++l} (hs++[Base P]) {v with heap:=v.heap.setIfInBounds r (.deferred none)}):=step_lone_go (by
       rw[bF];unfold Go.unwind;simp only[hdd,Sem.runT_eq,aW,GStep.bare_after];rfl)
      simp only[runN,bJ]at hr;obtain⟨CH,k1,k2,k3⟩:=ih {h with defers:=[]++l} hs _ {w2 with heap:=w2.heap.setIfInBounds r' (.deferred none)} ch e0 hm he ⟨⟨_,Ws⟩,CI⟩ FX (hw.setObj Oq .dJ hN) fr w1 hr hl;refine⟨CH,k1,k2,Alike.trans (fun s=>?_) k3⟩;by_cases hs:r=s
      .subst hs;have au:=(Array.getElem?_eq_some_iff.1 ho).1;exact .inr ⟨⟨_,ho⟩,none,by simp[au]⟩
      .exact .inl (by simp[hs])
     |_=>exact(Gj fun d h=>by cases h).elim
  |nil=>
   have SN:h.catches P=false:=mK CI;cases hs with
   |nil=>
    exfalso
    have bJ:step P (lone h ([]++[Base P]) v)=.next (lone ((Base P).raise ch) [] v):=step_lone_go (by
     rw[bF];unfold Go.unwind;simp only[hdd,hm,SN,Bool.false_eq_true,if_false];rfl)
    simp only[runN,bJ]at hr;obtain⟨o,w5,Wt⟩:=eP P ch v;cases n with
    |zero=>
     simp only[runN,Stepped.next.injEq]at hr;have:=(eJ hr).2.1;simp at this
    |succ n=>simp only[runN,Wt]at hr;cases hr
   |cons g2 js=>
    have bJ:step P (lone h (g2::js++[Base P]) v)=.next (lone (g2.raise ch) (js++[Base P]) v):=step_lone_go (by
     rw[bF];unfold Go.unwind;simp only[hdd,hm,SN,Bool.false_eq_true,if_false];rfl)
    simp only[runN,bJ]at hr;obtain⟨ch3,m1,m2⟩:=raise_mode g2 he;obtain⟨Yn,ht2⟩:=FX g2 (by simp);have SO:=vE g2 ch;exact ih (g2.raise ch) js v w2 ch3 e0 m1 m2 ⟨by rw[SO.1];exact Yn,by rw[SO.2];exact ht2⟩ (fun g hg=>FX g (by simp[hg])) hw fr w1 hr hl
end
def Wu (P:Program) (lf:Frame) (rr:List Frame) (lw:World) (R:Value->World->Prop) (C:Value->World->Prop):Prop:=
 ∀T,∃n fr w1,runN P n (lone lf (rr++[Base P]) {lw with tape:=T})=.next (lone fr [Base P] w1)/\
  ((∃v,fr.leaving P w1 (.returned v)/\R v w1)\/(∃e ch,fr.leaving P w1 (.panicked (e::ch))/\C e.v w1/\∀(S:Nat->Bool) (q:Pi) v',S (P.funcs.size+P.globals.size)=false->¬VR S q e.v v'))
def rt (P:Program) (S:Nat->Bool) (N:Nat) (p:Pi) (R:Value->World->Prop) (kn own:Nat->Prop) (v':Value) (w':World):Prop:=
 ∃q v w1,R v w1/\VR S q v v'/\WR P S (KS P S) N q w1 w'/\Le p q/\kn=jB q/\own=bM N q
def fY (m:Nat->Nat) (d:Nat):Nat->Nat
 |0=>d
 |k+1=>fY m d k+m k
theorem oT (m:Nat->Nat) (d:Nat) {k j:Nat} (h:k<=j):fY m d k<=fY m d j:=by
 induction h with
 |refl=>exact Nat.le_refl _
 |step _ ih=>simp only[fY];omega
open Classical in
theorem splice [Inhabited α] (m:Nat->Nat) (a:Nat->Nat->α) (d:Nat):∃T:Nat->α,∀k j,j<m k->T (fY m d k+j)=a k j:=by
 refine⟨fun i=>if h:∃k,fY m d k<=i/\i<fY m d (k+1)then a h.choose (i-fY m d h.choose)else default,fun k j hj=>?_⟩;have h:∃k',fY m d k'<=fY m d k+j/\fY m d k+j<fY m d (k'+1):=⟨k,by omega,by simp only[fY];omega⟩
 simp only[dif_pos h];obtain⟨c,hc,fR⟩:∃c,(fY m d c<=fY m d k+j/\fY m d k+j<fY m d (c+1))/\h.choose=c:=⟨h.choose,h.choose_spec,rfl⟩
 rw[fR]
 have e:c=k:=by
  rcases Nat.lt_trichotomy c k with au|heq|xU
  .have:=oT m d (show c+1<=k by omega);omega
  .exact heq
  .have:=oT m d (show k+1<=c by omega);simp only[fY]at this;omega
 subst e;congr 1;omega
def JI (H:FuncId->Code->Code->Prop) (lf f:Frame):Prop:=lf.mode=.run/\f.mode=.run/\∃c c' k k',lf.todo=.code c::k/\f.todo=.code c'::k'/\H f.fn c c'
def Gk (H:FuncId->Code->Code->Prop) (f:Frame):Prop:=f.mode=.run/\∃c c' k',f.todo=.code c'::k'/\H f.fn c c'
structure ru (P:Program) (S:Nat->Bool) (H:FuncId->Code->Code->Prop) (N:Nat) (HA:kE) (HP:dv) (C:Value->World->Prop)where
 a0:Question->Nat
 m1:Nat
 Wv:Value->World->Nat->Question->Nat
 ln:Nat
 q3:Pi->Nat->Frame->World->Value->World->Pi
 val:Frame->Value
 only:∀fn c c' c0,H fn c c'->CR P S (H fn) c0 c'->H fn c0 c'\/∃w,c0=.refuse w
 marked:S (P.funcs.size+P.globals.size)=false
 bare:∀o,fw S o=false
 Aw:∀v w w',Alike w w'->C v w'->C v w
 check:∀p lf f v cs,kD P S H p lf f->JI H lf f->(∀q,v.tape v.drawn q=a0 q)->∃n g1 v1 e,runN P n (lone lf cs v)=.next (lone g1 cs v1)/\g1.mode=.panicking [e]/\e.v=val lf/\
  FD P S H p g1/\v1.heap=v.heap
 ha:∀p lf f v w2,kD P S H p lf f->JI H lf f->WR P S (KS P S) N p v w2->C (val lf) v->HA (jB p) (bM N p) f w2
 pass:∀p lf f v w2 lc cs u' w3 eu bq,kD P S H p lf f->JI H lf f->WR P S (KS P S) N p v w2->HP (jB p) (bM N p) f w2 u' w3 eu bq->(∀i,i<m1->∀q,v.tape (v.drawn+i) q=Wv u' w3 i q)->
  ∃n u v1,1<=n/\runN P n (lone lf (lc::cs) v)=.next (lone (lc.finish u) cs v1)/\VR S (q3 p v.heap.size f w2 u' w3) u u'/\WR P S (KS P S) N (q3 p v.heap.size f w2 u' w3) v1 w3/\
   Le p (q3 p v.heap.size f w2 u' w3)/\eu=jB (q3 p v.heap.size f w2 u' w3)/\bq=bM N (q3 p v.heap.size f w2 u' w3)/\v1.tape=v.tape/\v1.drawn=v.drawn+m1/\v1.heap.size=v.heap.size+ln
structure Nd where
 p:Pi
 L:Nat
 f:Frame
 top:List Frame
 w:World
section
variable (Q:Program) (S:Nat->Bool) (H:FuncId->Code->Code->Prop) (N:Nat) (main:Bool) (base:List Frame) (Fin:nF) (HA:kE) (HP:dv)
def Nd.ct (x:Nd):Prop:=CT Q main base Fin HA HP (jB x.p) (bM N x.p) x.f x.top x.w
def Nd.step (x:Nd) (w2:World):GStep:=stepG Q main (il x.f (x.top++base)) w2
def Nd.bad (x:Nd) (w2:World):Prop:=
 Env (jB x.p) x.w w2/\
 ¬((∃w3 es f2 nG,x.step Q main base w2=.go (il f2 (nG++base)) w3 es/\Fair (jB x.p) (bM N x.p) w2 w3 es/\CT Q main base Fin HA HP (aG (jB x.p) w2 w3) (aG (bM N x.p) w2 w3) f2 nG w3)\/
  (∃w3 es v b bs,base=b::bs/\x.step Q main base w2=.go (il (b.finish v) bs) w3 es/\Fair (jB x.p) (bM N x.p) w2 w3 es/\Fin (aG (jB x.p) w2 w3) (aG (bM N x.p) w2 w3) v w3)\/
  (∃w3 es v,base=[]/\x.step Q main base w2=.ended (.done v) w3 es/\Fair (jB x.p) (bM N x.p) w2 w3 es/\Fin (aG (jB x.p) w2 w3) (aG (bM N x.p) w2 w3) v w3)\/
  (HA (jB x.p) (bM N x.p) x.f w2/\∃c rest,x.top=c::rest/\∀v w3 eu bq,HP (jB x.p) (bM N x.p) x.f w2 v w3 eu bq->CT Q main base Fin HA HP eu bq (c.finish v) rest w3))
theorem Nd.Ot (x:Nd) (h:¬x.ct Q N main base Fin HA HP):∃w2,x.bad Q N main base Fin HA HP w2:=by
 refine Classical.byContradiction fun hn=>h (CT.mk fun w2 he=>?_);exact Classical.byContradiction fun hx=>hn ⟨w2,he,hx⟩
def Nd.out (x:Nd) (w2:World) (o:Value×World):Prop:=
 ∃c rest eu bq,x.top=c::rest/\HP (jB x.p) (bM N x.p) x.f w2 o.1 o.2 eu bq/\¬CT Q main base Fin HA HP eu bq (c.finish o.1) rest o.2
open Classical in
noncomputable def Nd.pick (x:Nd):World:=if h:∃w2,x.bad Q N main base Fin HA HP w2 then h.choose else x.w
theorem Nd.ug (x:Nd) (h:¬x.ct Q N main base Fin HA HP):x.bad Q N main base Fin HA HP (x.pick Q N main base Fin HA HP):=by
 have:=x.Ot Q N main base Fin HA HP h;unfold Nd.pick;rw[dif_pos this];exact this.choose_spec
open Classical in
noncomputable def Nd.eQ (x:Nd):Value×World:=
 if h:∃o,x.out Q N main base Fin HA HP (x.pick Q N main base Fin HA HP) o then h.choose else(undef,x.w)
theorem Nd.vF (x:Nd) (h:∃o,x.out Q N main base Fin HA HP (x.pick Q N main base Fin HA HP) o):x.out Q N main base Fin HA HP (x.pick Q N main base Fin HA HP) (x.eQ Q N main base Fin HA HP):=by
 unfold Nd.eQ;rw[dif_pos h];exact h.choose_spec
end
section
variable {P:Program} (Q:Program) {S:Nat->Bool} {H:FuncId->Code->Code->Prop} {N:Nat} (main:Bool) (base:List Frame) (Fin:nF) {HA:kE} {HP:dv} {C:Value->World->Prop} (hl:ru P S H N HA HP C)
open Classical in
noncomputable def Nd.nx (x:Nd):Nd:=
 if Gk H x.f then
  match x.top with
  |c::rest=>⟨hl.q3 x.p x.L x.f (x.pick Q N main base Fin HA HP) (x.eQ Q N main base Fin HA HP).1 (x.eQ Q N main base Fin HA HP).2,x.L+hl.ln,c.finish (x.eQ Q N main base Fin HA HP).1,rest,(x.eQ Q N main base Fin HA HP).2⟩
  | []=>x
 else match x.step Q main base (x.pick Q N main base Fin HA HP)with
 |.go g w3 _=>⟨ext x.p x.L (x.pick Q N main base Fin HA HP).heap.size (w3.heap.size-(x.pick Q N main base Fin HA HP).heap.size),x.L+(w3.heap.size-(x.pick Q N main base Fin HA HP).heap.size),
    g.frame,g.callers.take (g.callers.length-base.length),w3⟩
 |_=>x
noncomputable def Nd.path (x:Nd):Nat->Nd
 |0=>x
 |k+1=>(Nd.path x k).nx Q main base Fin hl
open Classical in
noncomputable def Nd.cnt (x:Nd):Nat:=
 if Gk H x.f then hl.m1 else(gw (x.step Q main base (x.pick Q N main base Fin HA HP))).drawn-(x.pick Q N main base Fin HA HP).drawn
open Classical in
noncomputable def Nd.piece (x:Nd) (i:Nat):Question->Nat:=
 if Gk H x.f then hl.Wv (x.eQ Q N main base Fin HA HP).1 (x.eQ Q N main base Fin HA HP).2 i else(x.pick Q N main base Fin HA HP).tape ((x.pick Q N main base Fin HA HP).drawn+i)
end
instance : Inhabited (Question -> Nat) := ⟨fun _ => 0⟩
def Ends (P:Program) (fr:Frame) (w1:World):Prop:=(∃v,fr.leaving P w1 (.returned v))\/∃ch,fr.leaving P w1 (.panicked ch)
theorem Ends.after {P:Program} (h:Ends P fr w1):∃b,step P (lone fr [Base P] w1)=.next (lone b [] w1)/\∃o w2,step P (lone b [] w1)=.ended o w2:=by
 rcases h with⟨v,h⟩|⟨ch,h⟩
 .exact⟨_,step_leave_returned h,fX P v w1⟩
 .exact⟨_,step_leave_panicked h,eP P ch w1⟩
theorem before {P:Program} {m0:Machine} (h:runN P n m0=.next (lone fr [Base P] w1)) (he:Ends P fr w1) {ν:Nat} {gs:List Frame} {v:World}
 (hv:runN P ν m0=.next (lone g (gs++[Base P]) v)):ν<=n/\runN P (n-ν) (lone g (gs++[Base P]) v)=.next (lone fr [Base P] w1):=by
 obtain⟨b,h1,o,w2,h2⟩:=he.after
 have hle:ν<=n:=by
  rcases Nat.lt_or_ge n ν with au|xG
  .exfalso;obtain⟨j,rfl⟩:∃j,ν=(n+1)+j:=⟨ν-(n+1),by omega⟩
   rw[runN_add,rn P n _ _ h,h1]at hv;cases j with
   |zero=>
    simp only[runN,Stepped.next.injEq]at hv;have:=(eJ hv).2.1;simp at this
   |succ j=>simp only[runN,h2]at hv;cases hv
  .exact xG
 refine⟨hle,?_⟩;have:n=ν+(n-ν):=by omega
 rw[this,runN_add,hv]at h;exact h
theorem vG {P:Program} {b:Frame} {v1:World} (h:runN P r σ=.next (lone fr [Base P] w1)) (hs:step P σ=.next (lone b [] v1)) (hb:∃o w2,step P (lone b [] v1)=.ended o w2):r=0/\σ=lone fr [Base P] w1:=by
 obtain⟨o,w2,hb⟩:=hb;cases r with
 |zero=>simp only[runN,Stepped.next.injEq]at h;exact⟨rfl,h⟩
 |succ r=>
  exfalso;simp only[runN,hs]at h;cases r with
  |zero=>
   simp only[runN,Stepped.next.injEq]at h;have:=(eJ h).2.1;simp at this
  |succ r=>simp only[runN,hb]at h;cases h
theorem vH {P:Program} {o:Outcome} (h:runN P r σ=.next (lone fr [Base P] w1)) (he:Ends P fr w1) (hs:step P σ=.ended o w2):False:=by
 cases r with
 |zero=>
  simp only[runN,Stepped.next.injEq]at h;obtain⟨b,h1,_⟩:=he.after;rw[h,h1]at hs;cases hs
 |succ r=>simp only[runN,hs]at h;cases h
theorem FL.above {P:Program} {S:Nat->Bool} {H:FuncId->Code->Code->Prop} {p:Pi} (h:FL P S H p (f::t) (f'::t')) {c c':Code} (hh:H f'.fn c c'):∃g g' r r',t=g::r/\t'=g'::r'/\FL P S H p (g::r) (g'::r'):=by
 cases h with
 |one h r=>exact absurd (h.fn▸hh) (r.2 c c')
 |cons h k=>
  cases k with
  |one h r=>exact⟨_,_,_,_,rfl,rfl,.one h r⟩
  |cons h t=>exact⟨_,_,_,_,rfl,rfl,.cons h t⟩
section
variable {P:Program} {F:Array Func} {S:Nat->Bool} {H:FuncId->Code->Code->Prop} {N:Nat} {HA:kE} {HP:dv} {C:Value->World->Prop}
theorem Gl {p:Pi} (hl:ru P S H N HA HP C) (hf:FL P S H p (f::t) (f'::t')) (hh:Gk H f'):JI H f f'\/∃w k,f.todo=.code (.refuse w)::k/\f.mode=.run:=by
 obtain⟨hm,c,c',k',ht,hH⟩:=hh;have mJ:=hf.head.mode;rw[hm]at mJ;have aW:f.mode=.run:=by generalize f.mode=o at mJ;cases mJ;rfl
 have CI:=hf.head.todo;rw[ht]at CI
 have key:∀x,f.todo=x->TL P S (H f.fn) p x (.code c'::k')->JI H f f'\/∃w k,f.todo=.code (.refuse w)::k/\f.mode=.run:=by
  intro x hx CI;cases CI with
  |cons hi CI=>
   cases hi with
   | @code c0 _ M0=>
     rcases hl.only _ c c' c0 hH (hf.head.fn▸M0)with h|⟨w,h⟩
     .exact .inl ⟨aW,hm,c0,c',_,k',hx,ht,h⟩
     .rw[h]at hx;exact .inr ⟨w,_,hx,aW⟩
 exact key _ rfl CI
theorem uh {p:Pi} (hc:Closed P F S H) (hg:iw P S p) {lf:Frame} {rr top:List Frame} {w:World} (hw:WR P S (KS P S) N p lw w)
 (hf:FL P S H p (lf::rr) (f::top)) {R:Value->World->Prop} (hl:ru P S H N HA HP C) (Ed:Wu P lf rr lw R C) (main:Bool) (base:List Frame) (hb:Om P S main base):
 CT (ae P F) main base (rt P S N p R) HA HP (jB p) (bM N p) f top w:=by
 refine Classical.byContradiction fun Yq=>?_;let Fin:=rt P S N p R
 let x0:Nd:=⟨p,lw.heap.size,f,top,w⟩
 have xg:¬x0.ct (ae P F) N main base Fin HA HP:=Yq;let X:=fun k=>Nd.path (ae P F) main base Fin hl x0 k
 let pk:=fun k=>(X k).pick (ae P F) N main base Fin HA HP
 let m:=fun k=>(X k).cnt (ae P F) main base Fin hl
 let D:=fun k=>fY m lw.drawn k
 let start:=fun T:Nat->Question->Nat=>lone lf (rr++[Base P]) {lw with tape:=T}
 have inv:∀k (T:Nat->Question->Nat),(∀j,j<k->∀i,i<m j->T (D j+i)=(X j).piece (ae P F) main base Fin hl i)->∃ν g gs v,k<=ν/\runN P ν (start T)=.next (lone g (gs++[Base P]) v)/\WR P S (KS P S) N (X k).p v (X k).w/\
  FL P S H (X k).p (g::gs) ((X k).f::(X k).top)/\iw P S (X k).p/\v.tape=T/\v.drawn=D k/\v.heap.size=(X k).L/\(¬(X k).ct (ae P F) N main base Fin HA HP)/\Le p (X k).p:=by
  intro k;induction k with
  |zero=>intro T _;exact⟨0,lf,rr,{lw with tape:=T},Nat.le_refl _,rfl,hw.tape T lw.drawn,hf,hg,rfl,rfl,rfl,xg,Le.refl p⟩
  |succ k ih=>
   intro T hT;obtain⟨ν,g,gs,v,e0,e1,e2,e3,e4,e5,e6,e7,e8,e9⟩:=ih T fun j hj i hi=>hT j (by omega) i hi;obtain⟨vI,rq⟩:=(X k).ug (ae P F) N main base Fin HA HP e8;have xk:WR P S (KS P S) N (X k).p v (pk k):=e2.env vI;obtain⟨n,fr,w1,c1,c2⟩:=Ed T
   have my:Ends P fr w1:=by
    rcases c2 with⟨rv,h,_⟩|⟨e,ch,h,_⟩
    .exact .inl ⟨rv,h⟩
    .exact .inr ⟨_,h⟩
   obtain⟨hle,pO⟩:=before c1 my e1;by_cases kY:Gk H (X k).f
   ·
    rcases Gl hl e3 kY with hh|⟨ws,kk,Yr,Ys⟩
    .have tB:m k=hl.m1:=by show Nd.cnt _ _ _ _ hl (X k)=_;unfold Nd.cnt;rw[if_pos kY]
     obtain⟨lc,fc,xV,rest,hgs,qu,Kw⟩:∃lc fc xV rest,gs=lc::xV/\(X k).top=fc::rest/\FL P S H (X k).p (lc::xV) (fc::rest):=by
      obtain⟨_,_,c,c',_,_,_,_,hH⟩:=hh;obtain⟨lc,fc,lr,r,h1,h2,h3⟩:=e3.above hH;exact⟨lc,fc,lr,r,h1,h2,h3⟩
     have tC:HA (jB (X k).p) (bM N (X k).p) (X k).f (pk k):=by
      let T2:Nat->Question->Nat:=fun i=>if i<D k then T i else hl.a0
      have hT2:∀j,j<k->∀i,i<m j->T2 (D j+i)=(X j).piece (ae P F) main base Fin hl i:=fun j hj i hi=>by
       have h1:=oT m lw.drawn (show j+1<=k by omega);simp only[fY]at h1;have:D j+i<D k:=by show fY m lw.drawn j+i<fY m lw.drawn k;omega
       show(if D j+i<D k then T (D j+i)else hl.a0)=_;rw[if_pos this];exact hT j (by omega) i hi
      obtain⟨ν2,g2,M1,v2,_,f1,f2,f3,_,f5,f6,_,_,_⟩:=ih T2 hT2;have Ww:JI H g2 (X k).f\/_:=Gl hl f3 kY;obtain⟨n2,fr2,w3,d1,d2⟩:=Ed T2
      have vJ:Ends P fr2 w3:=by
       rcases d2 with⟨rv,h,_⟩|⟨e,ch,h,_⟩
       .exact .inl ⟨rv,h⟩
       .exact .inr ⟨_,h⟩
      obtain⟨_,Ou⟩:=before d1 vJ f1;rcases Ww with Ww|⟨ws,kk,Yr,Ys⟩
      .obtain⟨nn,g3,v3,e,p1,p2,p3,p4,p5⟩:=hl.check (X k).p g2 (X k).f v2 (M1++[Base P]) f3.head Ww (fun q=>by
        rw[f5,f6];show(if D k<D k then T (D k)else hl.a0) q=hl.a0 q;rw[if_neg (Nat.lt_irrefl _)])
       have hgo:runN P (ν2+nn) (start T2)=.next (lone g3 (M1++[Base P]) v3):=by rw[runN_add,f1];exact p1
       obtain⟨_,Ov⟩:=before d1 vJ hgo;have hw3:WR P S (KS P S) N (X k).p v3 (X k).w:=⟨f2.inj,fun r r' h=>by rw[p5];exact f2.blk r r' h,by rw[p5];exact f2.low,f2.fix,by rw[p5];exact f2.fq,f2.jt,f2.str,f2.tn⟩
       have hfd:∀x∈M1,FD P S H (X k).p x:=fun x hx=>f3.fd x (by simp[hx]);obtain⟨CH,q1,q2,q3⟩:=rp _ g3 M1 v3 (X k).w [e] e p2 rfl p4 hfd hw3 fr2 w3 Ov vJ;rcases d2 with⟨rv,h,_⟩|⟨e',Rn,h,hC,_⟩
       .have:=h.1;rw[q1]at this;cases this
       .have:=h.1;rw[q1]at this;simp only[FrameMode.panicking.injEq]at this;subst this;simp only[List.head?_cons,Option.some.injEq]at q2;subst q2;rw[p3]at hC;have M2:Alike v2 w3:=fun r=>by have:=q3 r;rw[p5]at this;exact this
        exact hl.ha (X k).p g2 (X k).f v2 (pk k) f3.head Ww (f2.env vI) (hl.Aw _ _ _ M2 hC)
      .exact(vH Ou vJ (step_lone_ended (o:=.unsupported _ (g2.pos P)) (w':=v2) (by
        unfold stepG;simp only[Ys];unfold stepG.exec;simp only[Yr];rfl))).elim
     have Ee:∃o,(X k).out (ae P F) N main base Fin HA HP (pk k) o:=by
      refine Classical.byContradiction fun ic=>rq (.inr (.inr (.inr ⟨tC,fc,rest,qu,fun v w3 eu bq hp=>?_⟩)));exact Classical.byContradiction fun hx=>ic ⟨(v,w3),fc,rest,eu,bq,qu,hp,hx⟩
     obtain⟨fc2,SP,eu,bq,M3,hHP,Ow⟩:=(X k).vF (ae P F) N main base Fin HA HP Ee;rw[qu]at M3;obtain⟨rfl,rfl⟩:fc=fc2/\rest=SP:=by simpa using M3
     obtain⟨nn,u,v1,p0,p1,p2,p4,p5,p6,p7,p8,p9,p10⟩:=hl.pass (X k).p g (X k).f v (pk k) lc (xV++[Base P]) _ _ eu bq e3.head hh xk hHP (fun i hi q=>by
      have:=hT k (by omega) i (by rw[tB];exact hi);rw[e5,e6,this];unfold Nd.piece;rw[if_pos kY])
     have FY:X (k+1)=⟨hl.q3 (X k).p (X k).L (X k).f (pk k) ((X k).eQ (ae P F) N main base Fin HA HP).1 ((X k).eQ (ae P F) N main base Fin HA HP).2,(X k).L+hl.ln,fc.finish ((X k).eQ (ae P F) N main base Fin HA HP).1,rest,((X k).eQ (ae P F) N main base Fin HA HP).2⟩:=by
      show(X k).nx (ae P F) main base Fin hl=_;unfold Nd.nx;rw[if_pos kY,qu]
     rw[FY];rw[e7]at p2 p4 p5 p6 p7;refine⟨ν+nn,lc.finish u,xV,v1,by omega,by rw[runN_add,e1,hgs];exact p1,p4,(Kw.mono p5).top ((Kw.mono p5).head.finish p2) (du _ _),e4.mono p5,p8.trans e5,?_,by rw[p10,e7],?_,e9.trans p5⟩
     .rw[p9,e6];show D k+hl.m1=fY m lw.drawn k+m k;rw[tB]
     .unfold Nd.ct;rw[<-p6,<-p7];exact Ow
    .exact(vH pO my (step_lone_ended (o:=.unsupported _ (g.pos P)) (w':=v) (by
      unfold stepG;simp only[Ys];unfold stepG.exec;simp only[Yr];rfl))).elim
   ·
    have tB:m k=(gw ((X k).step (ae P F) main base (pk k))).drawn-(pk k).drawn:=by show Nd.cnt _ _ _ _ hl (X k)=_;unfold Nd.cnt;rw[if_neg kY]
    have Ay:ku (m k) v (pk k):=fun j hj q=>by
     have:=hT k (by omega) j hj;rw[e5,e6,this];unfold Nd.piece;rw[if_neg kY]
    have hd:(gw (stepG (ae P F) main {frame:=(X k).f,callers:=(X k).top++base,status:=.running,dying:=none} (pk k))).drawn<=(pk k).drawn+m k:=by
     rw[tB];show(gw ((X k).step (ae P F) main base (pk k))).drawn<=(pk k).drawn+((gw ((X k).step (ae P F) main base (pk k))).drawn-(pk k).drawn)
     omega
    have Ox:=cV.step (b:=Base P) (bs:=[]) (aO:=base) hc xk e4 e3 (fun c c' k1 k1' hm h1 h2 hH=>kY ⟨by
     have mJ:=e3.head.mode;rw[hm]at mJ;generalize(X k).f.mode=o at mJ;cases mJ;rfl,c,c',k1',h2,e3.head.fn▸hH⟩) (fun⟨_,o,_,_,_,_,_,_,h5,_⟩=>by rw[hl.bare o.op]at h5;cases h5) true main hb Ay hd
    rcases Ox with⟨o,w3,es,hs⟩|⟨q,ch,Rn,w3,es,CE,hs⟩|⟨c,nn,v1,w3,es,cI,hm,SQ,jC⟩
    .exact(vH pO my (step_lone_ended (o:=o) (w':=w3) (by rw[hs];rfl))).elim
    .exfalso;have bF:step P (lone g (gs++[Base P]) v)=.next (lone ((Base P).raise ch) [] w3):=step_lone_go (by rw[hs];rfl);obtain⟨_,hσ⟩:=vG pO bF (eP P ch w3);rw[hσ]at bF;rcases c2 with⟨rv,h,_⟩|⟨e,CH,h,_,hnv⟩
     .rw[step_leave_returned h]at bF;simp only[Stepped.next.injEq]at bF;have q1:=(eJ bF).1;rw[dp]at q1;have:=congrArg (fun f:Frame=>f.mode) q1;simp[Base,Frame.raise]at this
     .rw[step_leave_panicked h]at bF;simp only[Stepped.next.injEq]at bF;have q1:=congrArg (fun f:Frame=>f.mode) (eJ bF).1;simp only[Base,Frame.raise,FrameMode.panicking.injEq]at q1;rw[<-q1]at CE;cases CE with
      |cons b1 b2 hv _=>exact hnv S q _ hl.marked hv
    .obtain⟨rx,ry,mL⟩:=bY.fair xk hm SQ;rcases jC with⟨f2,Kx,t2,Ky,Kw,hs,sS⟩|⟨Oy,Az,hv,hs,sS⟩
     .have bF:step P (lone g (gs++[Base P]) v)=.next (lone f2 (t2++[Base P]) v1):=step_lone_go (by rw[hs];rfl);have kF:=rn P ν _ _ e1;rw[bF]at kF;have js:(X k).step (ae P F) main base (pk k)=.go (il Kx (Ky++base)) w3 cI:=sS
      have FY:X (k+1)=⟨ext (X k).p (X k).L (pk k).heap.size c,(X k).L+c,Kx,Ky,w3⟩:=by
       show(X k).nx (ae P F) main base Fin hl=_;unfold Nd.nx;rw[if_neg kY];have KA:(X k).step (ae P F) main base ((X k).pick (ae P F) N main base Fin HA HP)=.go (il Kx (Ky++base)) w3 cI:=sS;rw[KA]
       have bV:w3.heap.size-((X k).pick (ae P F) N main base Fin HA HP).heap.size=c:=by
        have h6:w3.heap.size=(pk k).heap.size+c:=hm.kN;show w3.heap.size-(pk k).heap.size=c;rw[h6,Nat.add_sub_cancel_left]
       simp only[bV];congr 1;rw[List.length_append,Nat.add_sub_cancel];exact List.take_left
      rw[FY];have hrel:=hm.rel;rw[e7]at hrel Kw ry mL;have Ef:=eG (X k).p (X k).L (pk k).heap.size c;refine⟨ν+1,f2,t2,v1,by omega,kF,hrel,Kw,e4.mono Ef,hm.tape.trans e5,?_,by rw[hm.size,e7],?_,e9.trans Ef⟩
      .rw[hm.drawn,e6]
       have:m k=nn:=by
        rw[tB,js];have h5:w3.drawn=(pk k).drawn+nn:=hm.kO;show w3.drawn-(pk k).drawn=nn;rw[h5,Nat.add_sub_cancel_left]
       show D k+nn=fY m lw.drawn k+m k;rw[this]
      .intro AA;refine rq (.inl ⟨w3,cI,Kx,Ky,js,rx,?_⟩);unfold Nd.ct at AA;rw[ry,mL]at AA;exact AA
     .exfalso;have bF:step P (lone g (gs++[Base P]) v)=.next (lone ((Base P).finish Oy) [] v1):=step_lone_go (by rw[hs];rfl);obtain⟨_,hσ⟩:=vG pO bF (fX P Oy v1);rw[hσ]at bF;rcases c2 with⟨rv,h,hR⟩|⟨e,CH,h,_⟩
      .rw[step_leave_returned h]at bF;simp only[Stepped.next.injEq]at bF;obtain⟨q1,_,q3⟩:=eJ bF;rw[dp,dp]at q1
       have AB:rv=Oy:=by
        have:=congrArg (fun f:Frame=>f.tmps) q1;simpa using this
       subst AB;subst q3;have rz:Fin (aG (jB (X k).p) (pk k) w3) (aG (bM N (X k).p) (pk k) w3) Az w3:=⟨_,rv,w1,hR,hv,hm.rel,e9.trans (eG _ _ _ _),ry.symm,mL.symm⟩
       rcases sS with⟨b',vC,kZ,sS⟩|⟨kZ,sS⟩
       .exact rq (.inr (.inl ⟨w3,cI,Az,b',vC,kZ,sS,rx,rz⟩))
       .exact rq (.inr (.inr (.inl ⟨w3,cI,Az,kZ,sS,rx,rz⟩)))
      .rw[step_leave_panicked h]at bF;simp only[Stepped.next.injEq]at bF;have q1:=(eJ bF).1;rw[dp]at q1;have:=congrArg (fun f:Frame=>f.mode) q1;simp[Base,Frame.raise]at this
 obtain⟨T,hT⟩:=splice m (fun k j=>(X k).piece (ae P F) main base Fin hl j) lw.drawn;obtain⟨n,fr,w1,c1,c2⟩:=Ed T
 have my:Ends P fr w1:=by
  rcases c2 with⟨rv,h,_⟩|⟨e,ch,h,_⟩
  .exact .inl ⟨rv,h⟩
  .exact .inr ⟨_,h⟩
 obtain⟨ν,g,gs,v,e0,e1,_⟩:=inv (n+1) T fun j _ i hi=>hT j i hi;obtain⟨hle,_⟩:=before c1 my e1;omega
end
end Go.av
