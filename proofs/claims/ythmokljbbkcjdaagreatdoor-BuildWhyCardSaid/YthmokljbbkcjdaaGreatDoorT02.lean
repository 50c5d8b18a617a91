/- A part of the proof that BuildWhy returns true. Conditions: none. -/
import Derived.Test.YthmokljbbkcjdaaGreatDoorT01
set_option linter.unusedVariables false
set_option linter.unusedSimpArgs false
section
namespace Go.Par
section
variable {P:Program} {F:Array Func} {S:Nat→Bool} {H:FuncId→Code→Code→Prop} {N:Nat} {p:Pi} {w w':World} {b:Frame} {bs:List Frame} {base':List Frame}
theorem flag_of {f:Nat} (h:KS P S (.label (100000+f))):S (P.funcs.size+P.globals.size+1+f)=false:=by
 have h:(decide (100000+f<100000)||!S (P.funcs.size+P.globals.size+1+(100000+f-100000)))=true:=h
 rw[Nat.add_sub_cancel_left,decide_eq_false (by omega),Bool.false_or]at h
 simpa using h
theorem of_flag {f:Nat} (h:S (P.funcs.size+P.globals.size+1+f)=false):KS P S (.label (100000+f)):=by
 show(decide (100000+f<100000)||!S (P.funcs.size+P.globals.size+1+(100000+f-100000)))=true
 rw[Nat.add_sub_cancel_left,h]
 simp
theorem TL.kind {H:Code→Code→Prop} {l l':List Item} (h:TL P S H p l l'):(match l with|.call _ true _ _::_=>CallKind.wrapped|_=>CallKind.normal)=.normal∧(match l' with|.call _ true _ _::_=>CallKind.wrapped|_=>CallKind.normal)=.normal:=by
 cases h with
 |nil=>exact⟨rfl,rfl⟩
 |cons hi ht=>cases hi<;>exact⟨rfl,rfl⟩
theorem FL.head {f f':Frame} {t t':List Frame} (h:FL P S H p (f::t) (f'::t')):FrR P S H p f f':=by
 cases h with
 |one h=>exact h
 |cons h=>exact h
theorem FL.top {f f' g g':Frame} {t t':List Frame} (h:FL P S H p (f::t) (f'::t')) (hg:FrR P S H p g g') (hr:g.roundOf=f.roundOf∧g.fn=f.fn):FL P S H p (g::t) (g'::t'):=by
 cases h with
 |one h r=>exact .one hg ⟨hr.1.trans r.1,by rw[hr.2];exact r.2⟩
 |cons h t=>exact .cons hg t
theorem finish_round (f:Frame) (v:Value):(f.finish v).roundOf=f.roundOf∧(f.finish v).fn=f.fn:=by
 unfold Frame.finish;split<;>exact⟨rfl,rfl⟩
theorem raise_round (f:Frame) (v:List PanicEntry):(f.raise v).roundOf=f.roundOf∧(f.raise v).fn=f.fn:=by
 unfold Frame.raise;split<;>exact⟨rfl,rfl⟩
theorem Sim.apply (hc:Closed P F S H) (hw:WR P S (KS P S) N p w w') {f f':Frame} {top top':List Frame} (hf:FL P S H p (f::top) (f'::top')) {m:Nat} (hm:Tapes m w w')
 {s s':Sem Next} (hs:SR P F S (KS P S) N (QX S (KS P S)) s s' p) (hd:(gw (stepG.apply (withF P F) true f' (top'++base') none s' w')).drawn≤w'.drawn+m):
 Sim P S H N p w w' b bs base' (stepG.apply P true f (top++b::bs) none s w) (stepG.apply (withF P F) true f' (top'++base') none s' w'):=by
 have ho:=SR.sound hs w w' #[] #[] m hw hm (Nat.le_trans (apply_drawn ..) hd)
 have hfr:=hf.head
 have hk:=hfr.todo.kind
 have hke:(f'.kind==CallKind.early)=false:=by rw[hfr.kind'];rfl
 rcases ho with⟨x,w1,es1,e,hx⟩|⟨c,n,w1,w1',es1,fs,k1,k2,⟨x,y,e,e',hq⟩|⟨v,v',e,e',hv⟩⟩
 ·cases x with
  |stuck why=>exact .inl ⟨_,_,_,by simp only[stepG.apply,if_true,e];rfl⟩
  |unsupported u=>cases u<;>first|exact absurd hx id|exact .inl ⟨_,_,_,by simp only[stepG.apply,if_true,e];rfl⟩
  |_=>exact absurd hx id
 ·rw[Array.empty_append]at e'
  have hle:=ext_le p w.heap.size w'.heap.size c
  have hev:∀z∈seen (withF P F) f'.fn fs,EvP N (ext p w.heap.size w'.heap.size c) z:=fun z hz=>k2 z (mem_seen hz)
  have hf1:=hf.mono hle
  cases hq with
  | @value v v' h=>
    have t:=Sim.trans (b:=b) (bs:=bs) (base':=base') k1 (es:=seen P f.fn (if f.kind==CallKind.early then #[]else es1)) hev (Sim.go k1.rel (hf1.top (hf1.head.finish h) (finish_round f v)))
    simpa only[stepG.apply,if_true,e,e',hke,Bool.false_eq_true,if_false,GStep.after]using t
  |skip=>
   have t:=Sim.trans (b:=b) (bs:=bs) (base':=base') k1 (es:=seen P f.fn (if f.kind==CallKind.early then #[]else es1)) hev (Sim.go k1.rel (hf1.top (hf1.head.finish VR.undef) (finish_round f _)))
   simpa only[stepG.apply,if_true,e,e',hke,Bool.false_eq_true,if_false,GStep.after]using t
  | @enter g xs xs' hg h=>
    have t:=Sim.trans (b:=b) (bs:=bs) (base':=base') k1 (es:=seen P f.fn (if f.kind==CallKind.early then #[]else es1)) hev (Sim.go k1.rel (FL.cons (FrR.enter hc hg h hk.1 hk.2) hf1))
    simp only[stepG.apply,if_true,e,e',hke,Bool.false_eq_true,if_false,GStep.after]
    exact t
  | @round l l' g xs xs' a1 a2 hl hg h h1 h2 hz=>
    have hn:∀a b,¬H g a b:=(hc.hol g hg).2 (flag_of hz)
    have t:=Sim.trans (b:=b) (bs:=bs) (base':=base') k1 (es:=seen P f.fn (if f.kind==CallKind.early then #[]else es1)) hev (Sim.go k1.rel (FL.cons (FrR.ofRound hn hl hg h h1 h2) hf1))
    simpa only[stepG.apply,if_true,e,e',hke,Bool.false_eq_true,if_false,GStep.after,List.cons_append]using t
 ·rw[Array.empty_append]at e'
  have hle:=ext_le p w.heap.size w'.heap.size c
  have hev:∀z∈seen (withF P F) f'.fn fs,EvP N (ext p w.heap.size w'.heap.size c) z:=fun z hz=>k2 z (mem_seen hz)
  have hf1:=hf.mono hle
  have t:=Sim.trans (b:=b) (bs:=bs) (base':=base') k1 (es:=seen P f.fn (if f.kind==CallKind.early then #[]else es1)) hev (Sim.go k1.rel (hf1.top (hf1.head.raise (.cons false false hv .nil)) (raise_round f _)))
  simpa only[stepG.apply,if_true,e,e',hke,Bool.false_eq_true,if_false,GStep.after]using t
end
end Go.Par
end
section
namespace Go.Par
section
variable {P:Program} {F:Array Func} {S:Nat→Bool} {H:FuncId→Code→Code→Prop} {N:Nat} {p:Pi} {w w':World} {b:Frame} {bs:List Frame} {base':List Frame}
def Bot (P:Program) (S:Nat→Bool) (main':Bool) (base':List Frame):Prop:=base'=[]→main'=true∧∀f,S f=true→P.inits.idxOf? f=none
theorem Sim.doReturn (hw:WR P S (KS P S) N p w w') {f f':Frame} {top top':List Frame} (hf:FL P S H p (f::top) (f'::top')) (main main':Bool) (hb:Bot P S main' base') {v v':Value} (hv:VR S p v v'):
 Sim P S H N p w w' b bs base' (Go.doReturn P main f (top++b::bs) none v w) (Go.doReturn (withF P F) main' f' (top'++base') none v' w'):=by
 have h1:=hf.head.kind
 have h2:=hf.head.kind'
 have h3:=hf.head.fn
 have h4:=hf.head.fnS
 cases hf with
 |one h r=>
  cases base' with
  |nil=>
   obtain⟨rfl,hb2⟩:=hb rfl
   have hi:(withF P F).inits.idxOf? f'.fn=none:=by rw[←h3];exact hb2 _ h4
   unfold Go.doReturn
   simp only[h1,h2,List.nil_append,hi]
   exact Sim.retDone hw hv
  |cons b' bs'=>unfold Go.doReturn;rw[h1,h2];exact Sim.ret hw hv b' bs'
 |cons h t=>
  unfold Go.doReturn
  rw[h1,h2]
  cases t with
  |one h r=>exact Sim.go hw (.one (h.finish hv) ⟨(finish_round _ _).1.trans r.1,by rw[(finish_round _ _).2];exact r.2⟩)
  |cons h t=>exact Sim.go hw (.cons (h.finish hv) t)
def retLike:Option Code→Bool
 |none=>true
 |some .ret=>true
 |_=>false
def leaveG (P:Program) (main:Bool) (fr:Frame) (callers:List Frame) (jump:Option Code) (w:World):GStep:=
 match fr.roundOf with
 |none=>if retLike jump then .go {frame:={fr with mode:=.returning},callers,status:=.running,dying:=none} w else .ended (.stuck "exit, goto: no such block or label" (fr.pos P)) w
 |some l=>
  GStep.after (seen P fr.fn ((Instr.endRound l jump).runT P w #[]).2)<|match((Instr.endRound l jump).runT P w #[]).1 with
  |.ok v w=>Go.doReturn P main fr callers none v w
  |.halt _ w=>.ended (.stuck "range over a function: no such loop" (fr.pos P)) w
theorem doReturn_drawn (main:Bool) (f:Frame) (cs:List Frame) (hk:f.kind=.normal) (v:Value) (w:World):gw (Go.doReturn P main f cs none v w)=w:=by
 unfold Go.doReturn
 rw[hk]
 cases cs with
 |nil=>
  simp only
  split
  ·rfl
  ·split<;>rfl
 |cons c cs=>rfl
theorem leaveG_none (main:Bool) {f:Frame} (h:f.roundOf=none) (cs:List Frame) (jump:Option Code) (w:World):
 leaveG P main f cs jump w=if retLike jump then .go {frame:={f with mode:=.returning},callers:=cs,status:=.running,dying:=none} w else .ended (.stuck "exit, goto: no such block or label" (f.pos P)) w:=by
 unfold leaveG
 split
 ·rfl
 ·rename_i h2;rw[h]at h2;cases h2
theorem leaveG_some (main:Bool) {f:Frame} {l:Nat} (h:f.roundOf=some l) (cs:List Frame) (jump:Option Code) (w:World):
 leaveG P main f cs jump w=GStep.after (seen P f.fn ((Instr.endRound l jump).runT P w #[]).2) (match((Instr.endRound l jump).runT P w #[]).1 with
 |.ok v w=>Go.doReturn P main f cs none v w
 |.halt _ w=>.ended (.stuck "range over a function: no such loop" (f.pos P)) w):=by
 unfold leaveG
 split
 ·rename_i h2;rw[h]at h2;cases h2
 ·rename_i h2;rw[h]at h2;cases h2;rfl
theorem rr_inv {x y:Option Nat} (h:RR p x y):(x=none∧y=none)∨∃l l',x=some l∧y=some l'∧p l l':=by
 cases h with
 |none=>exact .inl ⟨rfl,rfl⟩
 |some h=>exact .inr ⟨_,_,rfl,rfl,h⟩
theorem Sim.leave (hw:WR P S (KS P S) N p w w') {f f':Frame} {top top':List Frame} (hf:FL P S H p (f::top) (f'::top')) (main main':Bool) (hb:Bot P S main' base') (jump:Option Code) (hj:∀c,jump=some c→codeOk P S c=true)
 {m:Nat} (hm:Tapes m w w') (hd:(gw (leaveG (withF P F) main' f' (top'++base') jump w')).drawn≤w'.drawn+m):
 Sim P S H N p w w' b bs base' (leaveG P main f (top++b::bs) jump w) (leaveG (withF P F) main' f' (top'++base') jump w'):=by
 have hfr:=hf.head
 rcases rr_inv hfr.round with⟨h1,h2⟩|⟨l,l',h1,h2,hl⟩
 ·rw[leaveG_none main h1,leaveG_none main' h2]
  cases hj:retLike jump with
  |true=>exact Sim.go hw (hf.top (g:={f with mode:=.returning}) (g':={f' with mode:=.returning}) ⟨hfr.fn,hfr.fnS,hfr.tmps,hfr.todo,hfr.defers,.returning,hfr.kind,hfr.kind',hfr.round,hfr.hol,hfr.nd,hfr.wide⟩ ⟨rfl,rfl⟩)
  |false=>exact Sim.ended ..
 ·rw[leaveG_some main' h2]at hd
  rw[leaveG_some main h1,leaveG_some main' h2]
  rw[gw_after]at hd
  refine Sim.run (SR.endRound hl jump hj) hw hm (ev:=fun r es=>seen P f.fn es) (ev':=fun r es=>seen (withF P F) f'.fn es) (fun r es e he=>mem_seen he)
   (k:=fun r=>match r with|.ok v w=>Go.doReturn P main f (top++b::bs) none v w|.halt _ w=>.ended (.stuck "range over a function: no such loop" (f.pos P)) w)
   (k':=fun r=>match r with|.ok v w=>Go.doReturn (withF P F) main' f' (top'++base') none v w|.halt _ w=>.ended (.stuck "range over a function: no such loop" (f'.pos (withF P F))) w)
   hd ?_ ?_ ?_ ?_
  ·intro r
   cases r with
   |ok v w=>simp only;rw[doReturn_drawn _ _ _ hfr.kind'];exact Nat.le_refl _
   |halt=>exact Nat.le_refl _
  ·intro x w1 _;exact⟨_,_,_,rfl⟩
  ·intro c n w1 w1' x y hmv hv _ _
   exact Sim.doReturn hmv.rel (hf.mono (ext_le _ _ _ _)) main main' hb hv
  ·intro c n w1 w1' v v' hmv hv;exact Sim.ended ..
theorem FrR.mk' {f f':Frame} (h:FrR P S H p f f') {l l':List Item} (hl:TL P S (H f.fn) p l l') {ds ds':List Deferred} (hd:DL p ds ds') (hnd:(ds=[]∧ds'=[])∨∀a b,¬H f.fn a b):FrR P S H p {f with todo:=l,defers:=ds} {f' with todo:=l',defers:=ds'}:=
 ⟨h.fn,h.fnS,h.tmps,hl,hd,h.mode,h.kind,h.kind',h.round,h.hol,hnd,h.wide⟩
theorem DL.append {l l' m m':List Deferred} (h:DL p l l') (k:DL p m m'):DL p (l++m) (l'++m'):=by
 induction h with
 |nil=>exact k
 |cons g _ ih=>exact .cons g ih
end
end Go.Par
end
section
namespace Go.Par
section
variable {P:Program} {F:Array Func} {S:Nat→Bool} {H:FuncId→Code→Code→Prop} {N:Nat} {p:Pi} {w w':World} {b:Frame} {bs:List Frame} {base':List Frame}
theorem exec_leave_nil (main:Bool) {f:Frame} (h:f.todo=[]) (cs:List Frame) (w:World):stepG.exec P main true f cs none w=leaveG P main f cs none w:=by
 obtain⟨fn,tmps,todo,ds,mode,kind,ro⟩:=f
 simp only at h
 subst h
 cases ro<;>rfl
theorem exec_leave_ret (main:Bool) {f:Frame} {k:List Item} (h:f.todo=.code .ret::k) (cs:List Frame) (w:World):stepG.exec P main true f cs none w=leaveG P main f cs (some .ret) w:=by
 obtain⟨fn,tmps,todo,ds,mode,kind,ro⟩:=f
 simp only at h
 subst h
 cases ro<;>rfl
theorem exec_leave_exit (main:Bool) {f:Frame} {k:List Item} {id:Nat} (h:f.todo=.code (.exit id)::k) (cs:List Frame) (w:World):
 stepG.exec P main true f cs none w=match exitTo id k with|none=>leaveG P main f cs (some (.exit id)) w|some t=>.go {frame:={f with todo:=t},callers:=cs,status:=.running,dying:=none} w:=by
 obtain⟨fn,tmps,todo,ds,mode,kind,ro⟩:=f
 simp only at h
 subst h
 cases ro<;>(unfold stepG.exec;dsimp only;cases exitTo id k<;>rfl)
theorem exec_leave_goto (main:Bool) {f:Frame} {k:List Item} {id:Nat} (h:f.todo=.code (.goto id)::k) (cs:List Frame) (w:World):
 stepG.exec P main true f cs none w=match gotoIn id k with|none=>leaveG P main f cs (some (.goto id)) w|some t=>.go {frame:={f with todo:=t},callers:=cs,status:=.running,dying:=none} w:=by
 obtain⟨fn,tmps,todo,ds,mode,kind,ro⟩:=f
 simp only at h
 subst h
 cases ro<;>(unfold stepG.exec;dsimp only;cases gotoIn id k<;>rfl)
theorem Sim.exec (hc:Closed P F S H) (hw:WR P S (KS P S) N p w w') (hg:Globs P S p) {f f':Frame} {top top':List Frame} (hf:FL P S H p (f::top) (f'::top')) (hnh:∀c c' k k',f.todo=.code c::k→f'.todo=.code c'::k'→¬H f.fn c c') (hno:f'.mode=.run→¬HatO S f') (hmo:f'.mode=.run) (main main':Bool) (hb:Bot P S main' base')
 {m:Nat} (hm:Tapes m w w') (hd:(gw (stepG.exec (withF P F) main' true f' (top'++base') none w')).drawn≤w'.drawn+m):
 Sim P S H N p w w' b bs base' (stepG.exec P main true f (top++b::bs) none w) (stepG.exec (withF P F) main' true f' (top'++base') none w'):=by
 have hfr:=hf.head
 have hto:∀{l l':List Item},TL P S (H f.fn) p l l'→Sim P S H N p w w' b bs base' (.go {frame:={f with todo:=l},callers:=top++b::bs,status:=.running,dying:=none} w) (.go {frame:={f' with todo:=l'},callers:=top'++base',status:=.running,dying:=none} w'):=
  fun h=>Sim.go hw (hf.top (hfr.todoTo h) ⟨rfl,rfl⟩)
 have ht:=hfr.todo
 have hev:=hfr.eval hg
 generalize h1:f.todo=t at ht
 generalize h2:f'.todo=t' at ht
 cases ht with
 |nil=>
  rw[exec_leave_nil main' h2]at hd
  rw[exec_leave_nil main h1,exec_leave_nil main' h2]
  exact Sim.leave hw hf main main' hb none (fun c h=>by cases h) hm hd
 | @cons i i' k k' hi ht=>
   cases hi with
   | @code c c' hcr=>
     cases hcr with
     |hole hh=>exact absurd hh (hnh _ _ _ _ h1 h2)
     |seq ha hb=>unfold stepG.exec;simp only[h1,h2];exact hto (.cons (.code ha) (.cons (.code hb) ht))
     |block id ha=>unfold stepG.exec;simp only[h1,h2];exact hto (.cons (.code ha) (.cons (.inBlock id) ht))
     |loop ha=>unfold stepG.exec;simp only[h1,h2];exact hto (.cons (.code ha) (.cons (.inLoop ha) ht))
     | @cond x a a' c c' hx ha hb=>
       have hx:=hev.at hx
       unfold stepG.exec;simp only[h1,h2]
       revert hx
       generalize f.eval x=v
       generalize f'.eval x=v'
       intro hx
       cases hx<;>first|exact Sim.ended .. |skip
       rename_i bo
       refine hto (.cons (.code ?_) ht)
       cases bo
       ·exact hb
       ·exact ha
     |same hcode hnr=>
      cases c with
      |ret=>
       rw[exec_leave_ret main' h2]at hd
       rw[exec_leave_ret main h1,exec_leave_ret main' h2]
       exact Sim.leave hw hf main main' hb (some .ret) (fun c h=>by cases h;rfl) hm hd
      |exit id=>
       rw[exec_leave_exit main' h2]at hd
       rw[exec_leave_exit main h1,exec_leave_exit main' h2]
       rcases exitTo_rel id ht with⟨e1,e2⟩|⟨j,j',e1,e2,hj⟩
       ·rw[e2]at hd
        rw[e1,e2]
        exact Sim.leave hw hf main main' hb (some (.exit id)) (fun c h=>by cases h;rfl) hm hd
       ·rw[e1,e2];exact hto hj
      |goto id=>
       rw[exec_leave_goto main' h2]at hd
       rw[exec_leave_goto main h1,exec_leave_goto main' h2]
       rcases gotoIn_rel id ht with⟨e1,e2⟩|⟨j,j',e1,e2,hj⟩
       ·rw[e2]at hd
        rw[e1,e2]
        exact Sim.leave hw hf main main' hb (some (.goto id)) (fun c h=>by cases h;rfl) hm hd
       ·rw[e1,e2];exact hto hj
      |skip=>
       unfold stepG.exec;simp only[h1,h2];exact hto ht
      |label l=>
       unfold stepG.exec;simp only[h1,h2];exact hto ht
      |seq a c=>
       simp only[codeOk,noRange,Bool.and_eq_true]at hcode hnr
       unfold stepG.exec;simp only[h1,h2];exact hto (.cons (.code (.same hcode.1 (hnr.imp And.left fun x=>x))) (.cons (.code (.same hcode.2 (hnr.imp And.right fun x=>x))) ht))
      |cond x a c=>
       simp only[codeOk,noRange,Bool.and_eq_true]at hcode hnr
       have hx:=hev.at hcode.1.1
       unfold stepG.exec;simp only[h1,h2]
       revert hx
       generalize f.eval x=v
       generalize f'.eval x=v'
       intro hx
       cases hx<;>first|exact Sim.ended .. |skip
       rename_i bo
       refine hto (.cons (.code ?_) ht)
       cases bo
       ·exact .same hcode.2 (hnr.imp And.right fun x=>x)
       ·exact .same hcode.1.2 (hnr.imp And.left fun x=>x)
      |block id c=>
       unfold stepG.exec;simp only[h1,h2];exact hto (.cons (.code (.same hcode hnr)) (.cons (.inBlock id) ht))
      |loop c=>
       unfold stepG.exec;simp only[h1,h2];exact hto (.cons (.code (.same hcode hnr)) (.cons (.inLoop (.same hcode hnr)) ht))
      |scope c=>
       unfold stepG.exec;simp only[h1,h2];exact hto (.cons (.code (.same hcode hnr)) (.cons (.inScope hcode hnr) ht))
      |refuse why=>unfold stepG.exec;simp only[h1,h2];exact Sim.ended ..
      |region id ops draw=>
       have hops:∀o∈ops,(opOk P S o.op||holeOp S o.op)=true:=fun o ho=>(Array.all_eq_true_iff_forall_mem.1 hcode) o ho
       unfold stepG.exec at hd⊢
       simp only[h1,h2]at hd⊢
       cases draw with
       |false=>exact hto (.cons (.inRegion _ hops) ht)
       |true=>
        simp only[Bool.not_true,Bool.false_eq_true,if_false,choose,Sem.run,Question.forced,Question.cut]at hd⊢
        have hm0:0<m:=by
         simp only[gw]at hd
         omega
        have ht0:=hm 0 hm0 (.order f'.fn id)
        simp only[Nat.add_zero]at ht0
        have ht1:w.tape w.drawn (.order f.fn id)=w'.tape w'.drawn (.order f'.fn id):=by rw[hfr.fn];exact ht0
        rw[ht1]
        have hw1:WR P S (KS P S) N p {w with drawn:=w.drawn+1} {w' with drawn:=w'.drawn+1}:=⟨hw.inj,hw.blk,hw.low,hw.fix,hw.glob,hw.glob'⟩
        have hm1:Moved P S (KS P S) N p w w' 0 1 {w with drawn:=w.drawn+1} {w' with drawn:=w'.drawn+1}:=
         ⟨by rw[ext_zero];exact hw1,rfl,rfl,rfl,rfl,rfl,rfl,rfl,rfl,fun _ _ _=>rfl⟩
        refine .inr (.inr ⟨0,1,_,_,#[],#[],hm1,by simp,.inl ⟨_,_,top,top',?_,rfl,rfl⟩⟩)
        rw[ext_zero]
        exact hf.top (hfr.todoTo (.cons (.inRegion _ hops) ht)) ⟨rfl,rfl⟩
      |rangeFunc x ps a c=>
       simp only[codeOk,Bool.and_eq_true]at hcode
       unfold stepG.exec at hd⊢
       simp only[h1,h2]at hd⊢
       rw[gw_after]at hd
       have hno:∀a b,¬H f.fn a b:=hnr.resolve_left (by simp[noRange])
       have hz:KS P S (.label (100000+f.fn)):=of_flag ((hc.hol f.fn hfr.fnS).1 hno)
       refine Sim.run (SR.enterLoop hfr.fn hfr.fnS hz hfr.tmps ps hcode.1.2 hcode.2 hfr.round) hw hm (ev:=fun r es=>seen P f.fn es) (ev':=fun r es=>seen (withF P F) f'.fn es) (fun r es e he=>mem_seen he)
        (k:=fun r=>match r with
          |.ok (l,mark) w=>stepG.apply P true {f with todo:=.inRangeFunc l::k,defers:=mark++f.defers} (top++b::bs) none
             (do let d←resolve (Frame.eval {f with todo:=.inRangeFunc l::k,defers:=mark++f.defers}) {callee:=.value x,args:=#[.const (.func (.yield l) #[] #[])],argTypes:=#[]} 0;invoke d.target d.args) w
          |.halt _ w=>.ended (.stuck "range over a function: no such loop" (f.pos P)) w)
        (k':=fun r=>match r with
          |.ok (l,mark) w=>stepG.apply (withF P F) true {f' with todo:=.inRangeFunc l::k',defers:=mark++f'.defers} (top'++base') none
             (do let d←resolve (Frame.eval {f' with todo:=.inRangeFunc l::k',defers:=mark++f'.defers}) {callee:=.value x,args:=#[.const (.func (.yield l) #[] #[])],argTypes:=#[]} 0;invoke d.target d.args) w
          |.halt _ w=>.ended (.stuck "range over a function: no such loop" (f'.pos (withF P F))) w)
        ?_ ?_ ?_ ?_ ?_
       ·exact hd
       ·intro r
        cases r with
        |ok x w1=>exact Nat.le_trans (runT_drawn (withF P F) _ w1 #[]) (apply_drawn ..)
        |halt=>exact Nat.le_refl _
       ·intro x w1 _;exact⟨_,_,_,rfl⟩
       ·intro cc n w1 w1' y y' hmv hy hm1 hd1
        obtain⟨l,mark⟩:=y
        obtain⟨l',mark'⟩:=y'
        have hle:=ext_le p w.heap.size w'.heap.size cc
        have hfr1:=(hfr.mono hle).mk' (.cons (.inRange hy.1 hno) (ht.mono hle)) (hy.2.append (hfr.defers.mono hle)) (.inr hno)
        refine Sim.apply hc hmv.rel ((hf.mono hle).top hfr1 ⟨rfl,rfl⟩) hm1 ?_ hd1
        refine SR.invokeValue hc.bodies ?_ ?_
        ·exact(hfr1.eval (hg.mono hle)).at hcode.1.1
        ·have:=AR.one (S:=S) (VR.yield (S:=S) hy.1)
         simpa [Frame.eval]using this
       ·intro cc n w1 w1' v v' hmv hv;exact Sim.ended ..
   | @inBlock id=>unfold stepG.exec;simp only[h1,h2];exact hto ht
   | @inScope c hcode _=>unfold stepG.exec;simp only[h1,h2];exact hto ht
   | @inLoop c c' hcr=>unfold stepG.exec;simp only[h1,h2];exact hto (.cons (.code hcr) (.cons (.inLoop hcr) ht))
   | @inRange l l' hl _=>unfold stepG.exec;simp only[h1,h2];exact Sim.ended ..
   | @begin=>
     unfold stepG.exec at hd⊢
     simp only[h1,h2]at hd⊢
     refine Sim.apply hc hw hf hm ?_ hd
     rcases rr_inv hfr.round with⟨e1,e2⟩|⟨l,l',e1,e2,hl⟩
     ·rw[e1,e2]
      exact(SR.stuck (α:=Unit) (β:=Unit) (Q:=QE Unit)).bindE fun q _ hq=>SR.pure .skip
     ·rw[e1,e2]
      exact(SR.beginRound hl).bindE fun q _ hq=>SR.pure .skip
   | @endRange l l' hl hno=>
     unfold stepG.exec at hd⊢
     simp only[h1,h2]at hd⊢
     rw[gw_after]at hd
     refine Sim.run (SR.endLoop hl) hw hm (ev:=fun r es=>seen P f.fn es) (ev':=fun r es=>seen (withF P F) f'.fn es) (fun r es e he=>mem_seen he)
      (k:=fun r=>match r with
        |.ok jump w=>.go {frame:={f with todo:=(jump.map Item.code).toList++k},callers:=top++b::bs,status:=.running,dying:=none} w
        |.halt (.panic v) w=>.go {frame:=f.raise [{v,recovered:=false}],callers:=top++b::bs,status:=.running,dying:=none} w
        |.halt _ w=>.ended (.stuck "range over a function: no such loop" (f.pos P)) w)
      (k':=fun r=>match r with
        |.ok jump w=>.go {frame:={f' with todo:=(jump.map Item.code).toList++k'},callers:=top'++base',status:=.running,dying:=none} w
        |.halt (.panic v) w=>.go {frame:=f'.raise [{v,recovered:=false}],callers:=top'++base',status:=.running,dying:=none} w
        |.halt _ w=>.ended (.stuck "range over a function: no such loop" (f'.pos (withF P F))) w)
      hd ?_ ?_ ?_ ?_
     ·intro r
      cases r with
      |ok x w1=>exact Nat.le_refl _
      |halt x w1=>cases x<;>exact Nat.le_refl _
     ·intro x w1 hx
      cases x<;>first|exact⟨_,_,_,rfl⟩|exact absurd hx id
     ·intro cc n w1 w1' y y' hmv hy hm1 hd1
      have hle:=ext_le p w.heap.size w'.heap.size cc
      obtain⟨rfl,hy⟩:=hy
      refine Sim.go hmv.rel ((hf.mono hle).top ((hfr.mono hle).todoTo ?_) ⟨rfl,rfl⟩)
      cases y with
      |none=>exact ht.mono hle
      |some c=>exact .cons (.code (.same (hy c rfl) (.inr hno))) (ht.mono hle)
     ·intro cc n w1 w1' v v' hmv hv
      have hle:=ext_le p w.heap.size w'.heap.size cc
      exact Sim.go hmv.rel ((hf.mono hle).top ((hfr.mono hle).raise (.cons false false hv .nil)) (raise_round f _))
   | @inRegion ops is hops=>
     cases is with
     |nil=>unfold stepG.exec;simp only[h1,h2];exact hto ht
     |cons i is=>
      unfold stepG.exec at hd⊢
      simp only[h1,h2]at hd⊢
      have hy:∀j,yielded ops f'.tmps j=yielded ops f.tmps j:=fun j=>(yielded_rel ops hfr.tmps j).symm
      have hyy:(yielded ops f'.tmps)=(yielded ops f.tmps):=funext hy
      rw[hyy]at hd⊢
      split at hd
      ·rename_i hwant
       rw[if_pos hwant,if_pos hwant]
       have ho1:f.oper?=ops[i]?:=by unfold Frame.oper?;rw[h1]
       have ho2:f'.oper?=ops[i]?:=by unfold Frame.oper?;rw[h2]
       unfold stepG.oper at hd⊢
       rw[ho1,ho2]
       rw[ho2]at hd
       cases ho:ops[i]? with
       |none=>exact Sim.ended ..
       |some o=>
        rw[ho]at hd
        have hopo:opOk P S o.op=true:=by
         have h0:=hops o (Array.mem_of_getElem? ho)
         rw[Bool.or_eq_true]at h0
         refine h0.resolve_right fun h3=>hno hmo ⟨hmo,o,ops,i,is,_,h2,ho,h3,?_⟩
         rw[hyy]
         rw[ho]at hwant
         simpa using hwant
        have hnd:∀c,o.op≠ .defer c:=by
         intro c hc2
         rw[hc2]at hopo
         simp[opOk]at hopo
        have key:∀(P:Program) (fr:Frame) (cs:List Frame) (w:World),(match fr.roundOf,o.op with
         |some l,.defer c=>stepG.apply P true fr cs none (do Instr.deferInRound l (←resolve fr.eval c o.type);pure .skip) w
         |_,_=>stepG.apply P true fr cs none (execOp fr.eval o) w)=stepG.apply P true fr cs none (execOp fr.eval o) w:=by
         intro P fr cs w
         split
         ·rename_i hx;exact absurd hx (hnd _)
         ·rfl
        have hd2:(gw (stepG.apply (withF P F) true f' (top'++base') none (execOp f'.eval o) w')).drawn≤w'.drawn+m:=by
         rw[←key (withF P F) f' (top'++base') w'];exact hd
        have e1:=key P f (top++b::bs) w
        have e2:=key (withF P F) f' (top'++base') w'
        refine Eq.mpr (congr (congrArg (Sim P S H N p w w' b bs base') e1) e2) ?_
        exact Sim.apply hc hw hf hm (SR.execOp hc.zeros hc.checker hc.bodies hev o hopo) hd2
      ·rename_i hwant
       rw[if_neg hwant,if_neg hwant]
       exact Sim.go hw (hf.top (hfr.finish VR.undef) (finish_round f _))
end
end Go.Par
end
section
namespace Go.Par
section
variable {P:Program} {F:Array Func} {S:Nat→Bool} {H:FuncId→Code→Code→Prop} {N:Nat} {p:Pi} {w w':World} {b:Frame} {bs:List Frame} {base':List Frame}
theorem not_call {H:Code→Code→Prop} {l l':List Item} (h:TL P S H p l l'):∀d x r s k,l≠ .call d x r s::k∧l'≠ .call d x r s::k:=by
 intro d x r s k
 cases h with
 |nil=>exact⟨by simp,by simp⟩
 |cons hi ht=>cases hi<;>exact⟨by simp,by simp⟩
theorem catches_no {f:Frame} (h:∀d x r s k,f.todo≠ .call d x r s::k):f.catches P=false:=by
 unfold Frame.catches
 split
 ·rename_i hh;exact absurd hh (h _ _ _ _ _)
 ·rfl
theorem Sim.unwind (hc:Closed P F S H) (hw:WR P S (KS P S) N p w w') {f f':Frame} {top top':List Frame} (hf:FL P S H p (f::top) (f'::top')) (main main':Bool) (hb:Bot P S main' base')
 {m:Nat} (hm:Tapes m w w') (hd:(gw (Go.unwind (withF P F) main' f' (top'++base') none w')).drawn≤w'.drawn+m):
 Sim P S H N p w w' b bs base' (Go.unwind P main f (top++b::bs) none w) (Go.unwind (withF P F) main' f' (top'++base') none w'):=by
 have hfr:=hf.head
 have hds:=hfr.defers
 generalize h1:f.defers=t at hds
 generalize h2:f'.defers=t' at hds
 unfold Go.unwind at hd⊢
 rw[h1,h2]
 rw[h2]at hd
 cases hds with
 | @cons r r' l l' hr hl=>
   simp only[gw_after]at hd⊢
   refine Sim.run (SR.takeDeferred hr) hw hm (ev:=fun r es=>seen P f.fn es) (ev':=fun r es=>seen (withF P F) f'.fn es) (fun r es e he=>mem_seen he)
    (k:=fun r=>match r with|.ok calls w=>.go {frame:={f with defers:=calls++l},callers:=top++b::bs,status:=.running,dying:=none} w|.halt _ w=>.ended (.stuck "the deferred calls of a range-over-func loop have been taken" (f.pos P)) w)
    (k':=fun r=>match r with|.ok calls w=>.go {frame:={f' with defers:=calls++l'},callers:=top'++base',status:=.running,dying:=none} w|.halt _ w=>.ended (.stuck "the deferred calls of a range-over-func loop have been taken" (f'.pos (withF P F))) w)
    hd ?_ ?_ ?_ ?_
   ·intro r;cases r<;>exact Nat.le_refl _
   ·intro x w1 _;exact⟨_,_,_,rfl⟩
   ·intro c n w1 w1' y y' hmv hy _ _
    obtain⟨rfl,rfl⟩:=hy
    have hle:=ext_le p w.heap.size w'.heap.size c
    exact Sim.go hmv.rel ((hf.mono hle).top ((hfr.mono hle).mk' (hfr.todo.mono hle) (hl.mono hle) (.inr (hfr.nd.resolve_left fun x=>by rw[h1]at x;cases x.1))) ⟨rfl,rfl⟩)
   ·intro c n w1 w1' v v' hmv hv;exact Sim.ended ..
 |nil=>
  simp only at hd⊢
  have hmo:=hfr.mode
  generalize g1:f.mode=o at hmo
  generalize g2:f'.mode=o' at hmo
  rw[g2]at hd
  cases hmo with
  |run=>exact Sim.ended ..
  | @panicking l l' hl=>
    simp only
    have n1:=catches_no (P:=P) (f:=f) fun d x r s k=>(not_call hfr.todo d x r s k).1
    have n2:=catches_no (P:=withF P F) (f:=f') fun d x r s k=>(not_call hfr.todo d x r s k).2
    simp only[n1,n2,Bool.false_eq_true,if_false]
    cases hf with
    |one h r=>exact Sim.raised hl ..
    |cons h t=>
     cases t with
     |one h r=>exact Sim.go hw (.one (h.raise hl) ⟨(raise_round _ _).1.trans r.1,by rw[(raise_round _ _).2];exact r.2⟩)
     |cons h t=>exact Sim.go hw (.cons (h.raise hl) t)
  |returning=>
   simp only at hd⊢
   rw[←hfr.fn]at hd⊢
   rcases hc.body f.fn hfr.fnS with⟨e1,e2⟩|⟨fn,fn',_,_,e1,e2,_,_,_,_,_,_,e3⟩
   ·rw[e1,e2]
    exact Sim.doReturn hw hf main main' hb (hfr.tmps.getD 0 VR.undef)
   ·rw[e1,e2]
    rw[e2]at hd
    simp only[gw_after]at hd⊢
    refine Sim.run (SR.results e3 hfr.tmps) hw hm (ev:=fun r es=>seen P f.fn es) (ev':=fun r es=>seen (withF P F) f.fn es) (fun r es e he=>mem_seen he)
     (k:=fun r=>match r with|.ok v w=>Go.doReturn P main f (top++b::bs) none v w|.halt (.stuck s) w=>.ended (.stuck s (f.pos P)) w|.halt _ w=>.ended (.stuck "return: the result variables cannot be read" (f.pos P)) w)
     (k':=fun r=>match r with|.ok v w=>Go.doReturn (withF P F) main' f' (top'++base') none v w|.halt (.stuck s) w=>.ended (.stuck s (f'.pos (withF P F))) w|.halt _ w=>.ended (.stuck "return: the result variables cannot be read" (f'.pos (withF P F))) w)
     hd ?_ ?_ ?_ ?_
    ·intro r
     cases r with
     |ok v w=>simp only;rw[doReturn_drawn _ _ _ hfr.kind'];exact Nat.le_refl _
     |halt x=>cases x<;>exact Nat.le_refl _
    ·intro x w1 hx;cases x<;>exact⟨_,_,_,rfl⟩
    ·intro c n w1 w1' x y hmv hv _ _
     exact Sim.doReturn hmv.rel (hf.mono (ext_le _ _ _ _)) main main' hb hv
    ·intro c n w1 w1' v v' hmv hv;exact Sim.ended ..
theorem Sim.step (hc:Closed P F S H) (hw:WR P S (KS P S) N p w w') (hg:Globs P S p) {f f':Frame} {top top':List Frame} (hf:FL P S H p (f::top) (f'::top')) (hnh:∀c c' k k',f.mode=.run→f.todo=.code c::k→f'.todo=.code c'::k'→¬H f.fn c c') (hno:¬HatO S f') (main main':Bool) (hb:Bot P S main' base')
 {m:Nat} (hm:Tapes m w w') (hd:(gw (stepG (withF P F) main' {frame:=f',callers:=top'++base',status:=.running,dying:=none} w')).drawn≤w'.drawn+m):
 Sim P S H N p w w' b bs base' (stepG P main {frame:=f,callers:=top++b::bs,status:=.running,dying:=none} w)
  (stepG (withF P F) main' {frame:=f',callers:=top'++base',status:=.running,dying:=none} w'):=by
 have hmo:=hf.head.mode
 have hrun:∀(P:Program) (main:Bool) (f:Frame) (cs:List Frame) (w:World),f.mode=.run→stepG P main {frame:=f,callers:=cs,status:=.running,dying:=none} w=stepG.exec P main true f cs none w:=by
  intro P main f cs w h;unfold stepG;simp only[h]
 have hun:∀(P:Program) (main:Bool) (f:Frame) (cs:List Frame) (w:World),f.mode≠ .run→stepG P main {frame:=f,callers:=cs,status:=.running,dying:=none} w=Go.unwind P main f cs none w:=by
  intro P main f cs w h
  unfold stepG
  simp only
 by_cases h:f.mode=.run
 ·have h':f'.mode=.run:=by
   rw[h]at hmo;generalize f'.mode=o at hmo;cases hmo;rfl
  rw[hrun _ _ _ _ _ h']at hd
  rw[hrun _ _ _ _ _ h,hrun _ _ _ _ _ h']
  exact Sim.exec hc hw hg hf (fun c c' k k'=>hnh c c' k k' h) (fun _=>hno) h' main main' hb hm hd
 ·have h':f'.mode≠ .run:=by
   intro e;rw[e]at hmo;generalize hx:f.mode=o at hmo;cases hmo;exact h hx
  rw[hun _ _ _ _ _ h']at hd
  rw[hun _ _ _ _ _ h,hun _ _ _ _ _ h']
  exact Sim.unwind hc hw hf main main' hb hm hd
end
end Go.Par
end
section
namespace Go.Par
def new (w w1:World):Nat→Prop:=fun r=>w.heap.size≤r∧r<w1.heap.size
def orNew (kn:Nat→Prop) (w w1:World):Nat→Prop:=fun r=>kn r∨new w w1 r
structure Env (kn:Nat→Prop) (w w2:World):Prop where
 size:w.heap.size≤w2.heap.size
 same:∀r,kn r→w2.heap[r]?=w.heap[r]?
 os:w2.os=w.os
 out:w2.output=w.output
theorem Env.refl (kn:Nat→Prop) (w:World):Env kn w w:=⟨Nat.le_refl _,fun _ _=>rfl,rfl,rfl⟩
theorem Env.trans {kn:Nat→Prop} {w w1 w2:World} (h:Env kn w w1) (k:Env kn w1 w2):Env kn w w2:=
 ⟨Nat.le_trans h.1 k.1,fun r hr=>(k.2 r hr).trans (h.2 r hr),k.os.trans h.os,k.out.trans h.out⟩
def EvK (kn own:Nat→Prop) (e:Event):Prop:=
 e=noRoomEvent∨(e.sync=false∧∃r,kn r∧((∃a:Addr,e.loc=.cell a∧a.block=r)∨e.loc=.obj r)∧(e.write=true→own r))
structure Fair (kn own:Nat→Prop) (w w1:World) (es:Array Event):Prop where
 size:w.heap.size≤w1.heap.size
 others:∀r,r<w.heap.size→¬own r→w1.heap[r]?=w.heap[r]?
 os:w1.os=w.os
 out:w1.output=w.output
 tape:w1.tape=w.tape
 drawn:w.drawn≤w1.drawn
 ev:∀e∈es,EvK (orNew kn w w1) (orNew own w w1) e
abbrev gor (f:Frame) (cs:List Frame):Goroutine:={frame:=f,callers:=cs,status:=.running,dying:=none}
abbrev FinT:=(Nat→Prop)→(Nat→Prop)→Value→World→Prop
abbrev HatT:=(Nat→Prop)→(Nat→Prop)→Frame→World→Prop
abbrev HpostT:=(Nat→Prop)→(Nat→Prop)→Frame→World→Value→World→(Nat→Prop)→(Nat→Prop)→Prop
abbrev PtT:=(Nat→Prop)→(Nat→Prop)→Frame→List Frame→World→Prop
def Body (Q:Program) (main:Bool) (base:List Frame) (Fin:FinT) (HA:HatT) (HP:HpostT) (I:PtT):PtT:=fun kn own f top w=>
 ∀w2,Env kn w w2→
  (∃w3 es f2 top2,stepG Q main (gor f (top++base)) w2=.go (gor f2 (top2++base)) w3 es∧Fair kn own w2 w3 es∧I (orNew kn w2 w3) (orNew own w2 w3) f2 top2 w3)∨
  (∃w3 es v b bs,base=b::bs∧stepG Q main (gor f (top++base)) w2=.go (gor (b.finish v) bs) w3 es∧Fair kn own w2 w3 es∧Fin (orNew kn w2 w3) (orNew own w2 w3) v w3)∨
  (∃w3 es v,base=[]∧stepG Q main (gor f (top++base)) w2=.ended (.done v) w3 es∧Fair kn own w2 w3 es∧Fin (orNew kn w2 w3) (orNew own w2 w3) v w3)∨
  (HA kn own f w2∧∃c rest,top=c::rest∧∀v w3 kn3 own3,HP kn own f w2 v w3 kn3 own3→I kn3 own3 (c.finish v) rest w3)
def CT (Q:Program) (main:Bool) (base:List Frame) (Fin:FinT) (HA:HatT) (HP:HpostT):PtT:=fun kn own f top w=>
 ∀I:PtT,(∀kn own f top w,Body Q main base Fin HA HP I kn own f top w→I kn own f top w)→I kn own f top w
section
variable {Q:Program} {main:Bool} {base:List Frame} {Fin:FinT} {HA:HatT} {HP:HpostT}
theorem Body.mono {I J:PtT} (h:∀kn own f top w,I kn own f top w→J kn own f top w) {kn own:Nat→Prop} {f:Frame} {top:List Frame} {w:World} (x:Body Q main base Fin HA HP I kn own f top w):Body Q main base Fin HA HP J kn own f top w:=by
 intro w2 he
 rcases x w2 he with⟨w3,es,f2,top2,h1,h2,h3⟩|x|x|⟨h1,c,rest,hc,h2⟩
 ·exact .inl ⟨w3,es,f2,top2,h1,h2,h _ _ _ _ _ h3⟩
 ·exact .inr (.inl x)
 ·exact .inr (.inr (.inl x))
 ·exact .inr (.inr (.inr ⟨h1,c,rest,hc,fun v w3 kn3 own3 hp=>h _ _ _ _ _ (h2 v w3 kn3 own3 hp)⟩))
theorem CT.mk {kn own:Nat→Prop} {f:Frame} {top:List Frame} {w:World} (h:Body Q main base Fin HA HP (CT Q main base Fin HA HP) kn own f top w):CT Q main base Fin HA HP kn own f top w:=
 fun I hI=>hI _ _ _ _ _ (h.mono fun _ _ _ _ _ x=>x I hI)
theorem CT.ind {I:PtT} (hI:∀kn own f top w,Body Q main base Fin HA HP (fun kn own f top w=>I kn own f top w∧CT Q main base Fin HA HP kn own f top w) kn own f top w→I kn own f top w)
 {kn own:Nat→Prop} {f:Frame} {top:List Frame} {w:World} (h:CT Q main base Fin HA HP kn own f top w):I kn own f top w:=
 (h (fun kn own f top w=>I kn own f top w∧CT Q main base Fin HA HP kn own f top w) fun _ _ _ _ _ x=>⟨hI _ _ _ _ _ x,CT.mk (x.mono fun _ _ _ _ _ y=>y.2)⟩).1
end
def rng (p:Pi):Nat→Prop:=fun r'=>∃r,p r r'
def ownOf (N:Nat) (p:Pi):Nat→Prop:=fun r'=>∃r,p r r'∧N≤r
theorem rng_ext (p:Pi) (L C c:Nat):rng (ext p L C c)=fun r'=>rng p r'∨(C≤r'∧r'<C+c):=by
 funext r'
 apply propext
 constructor
 ·rintro⟨r,h|⟨k,hk,h1,h2⟩⟩
  ·exact .inl ⟨r,h⟩
  ·exact .inr ⟨by omega,by omega⟩
 ·rintro(⟨r,h⟩|⟨h1,h2⟩)
  ·exact⟨r,.inl h⟩
  ·exact⟨L+(r'-C),.inr ⟨r'-C,by omega,rfl,by omega⟩⟩
theorem ownOf_ext {N:Nat} (p:Pi) {L:Nat} (hN:N≤L) (C c:Nat):ownOf N (ext p L C c)=fun r'=>ownOf N p r'∨(C≤r'∧r'<C+c):=by
 funext r'
 apply propext
 constructor
 ·rintro⟨r,h|⟨k,hk,h1,h2⟩,hr⟩
  ·exact .inl ⟨r,h,hr⟩
  ·exact .inr ⟨by omega,by omega⟩
 ·rintro(⟨r,h,hr⟩|⟨h1,h2⟩)
  ·exact⟨r,.inl h,hr⟩
  ·exact⟨L+(r'-C),.inr ⟨r'-C,by omega,rfl,by omega⟩,by omega⟩
section
variable {P:Program} {S:Nat→Bool} {N:Nat} {p:Pi}
theorem WR.env {lw w w2:World} (h:WR P S (KS P S) N p lw w) (he:Env (rng p) w w2):WR P S (KS P S) N p lw w2:=
 ⟨h.inj,fun r r' hr=>by
   obtain⟨o,o',h1,h2,h3⟩:=h.blk r r' hr
   exact⟨o,o',h1,(he.2 r' ⟨r,hr⟩).trans h2,h3⟩,h.low,h.fix,h.glob,Nat.le_trans h.glob' he.1⟩
theorem WR.tape {lw w:World} (h:WR P S (KS P S) N p lw w) (T:Nat→Question→Nat) (d:Nat):WR P S (KS P S) N p {lw with tape:=T,drawn:=d} w:=
 ⟨h.inj,h.blk,h.low,h.fix,h.glob,h.glob'⟩
theorem Moved.fair {lw w lw1 w1:World} {c n:Nat} (hw:WR P S (KS P S) N p lw w) (h:Moved P S (KS P S) N p lw w c n lw1 w1) {es:Array Event} (he:∀e∈es,EvP N (ext p lw.heap.size w.heap.size c) e):
 Fair (rng p) (ownOf N p) w w1 es∧rng (ext p lw.heap.size w.heap.size c)=orNew (rng p) w w1∧ownOf N (ext p lw.heap.size w.heap.size c)=orNew (ownOf N p) w w1:=by
 have e1:rng (ext p lw.heap.size w.heap.size c)=orNew (rng p) w w1:=by
  rw[rng_ext];unfold orNew new;rw[h.size']
 have e2:ownOf N (ext p lw.heap.size w.heap.size c)=orNew (ownOf N p) w w1:=by
  rw[ownOf_ext p hw.low];unfold orNew new;rw[h.size']
 refine⟨⟨by rw[h.size'];omega,fun r hr hn=>h.others r hr fun s hs=>?_,h.os',h.out',h.tape',by rw[h.drawn'];omega,fun e hx=>?_⟩,e1,e2⟩
 ·rcases Nat.lt_or_ge s N with hlt|hge
  ·exact hlt
  ·exact absurd ⟨s,hs,hge⟩ hn
 ·rw[←e1,←e2]
  rcases he e hx with h0|⟨h1,r,r',h2,h3,h4⟩
  ·exact .inl h0
  ·exact .inr ⟨h1,r',⟨r,h2⟩,h3,fun hwr=>⟨r,h2,h4 hwr⟩⟩
end
def Base (P:Program):Frame:={fn:=P.funcs.size,tmps:=#[],todo:=[.extern "" #[],.code (.refuse "")],defers:=[⟨.nil,#[]⟩],mode:=.run,kind:=.normal}
theorem base_finish (P:Program) (v:Value):(Base P).finish v={fn:=P.funcs.size,tmps:=#[v],todo:=[.code (.refuse "")],defers:=[⟨.nil,#[]⟩],mode:=.run,kind:=.normal}:=rfl
theorem base_finish_ends (P:Program) (v:Value) (w:World):∃o w1,step P (lone ((Base P).finish v) [] w)=.ended o w1:=⟨_,_,step_lone_ended (by rw[base_finish];rfl)⟩
theorem base_raise_ends (P:Program) (ch:List PanicEntry) (w:World):∃o w1,step P (lone ((Base P).raise ch) [] w)=.ended o w1:=⟨_,_,step_lone_ended (by rfl)⟩
theorem lone_inj {f g:Frame} {cs ds:List Frame} {w v:World} (h:lone f cs w=lone g ds v):f=g∧cs=ds∧w=v:=by
 have h1:(lone f cs w).gs[0]! =(lone g ds v).gs[0]!:=by rw[h]
 have h2:(lone f cs w).world=(lone g ds v).world:=by rw[h]
 have h3:(gor f cs)=(gor g ds):=h1
 simp only[Goroutine.mk.injEq]at h3
 exact⟨h3.1,h3.2.1,h2⟩
end Go.Par
end
section
namespace Go.Par
def Alike (w w':World):Prop:=∀r:Nat,w'.heap[r]?=w.heap[r]? ∨((∃d,w.heap[r]?=some (Obj.deferred d))∧∃d,w'.heap[r]?=some (Obj.deferred d))
theorem Alike.refl (w:World):Alike w w:=fun _=>.inl rfl
theorem Alike.trans {a b c:World} (h:Alike a b) (k:Alike b c):Alike a c:=fun r=>by
 rcases k r with k|⟨⟨d,k1⟩,k2⟩
 ·rcases h r with h|⟨h1,d,h2⟩
  ·exact .inl (k.trans h)
  ·exact .inr ⟨h1,d,k.trans h2⟩
 ·rcases h r with h|⟨h1,_⟩
  ·exact .inr ⟨⟨d,h▸k1⟩,k2⟩
  ·exact .inr ⟨h1,k2⟩
theorem runN_one (P:Program) (n:Nat) (m m1:Machine) (h:runN P n m=.next m1):runN P (n+1) m=step P m1:=by
 rw[runN_add,h]
 simp only[runN]
 split<;>simp_all
section
variable {P:Program} {S:Nat→Bool} {H:FuncId→Code→Code→Prop} {N:Nat} {p:Pi}
def FD (P:Program) (S:Nat→Bool) (H:FuncId→Code→Code→Prop) (p:Pi) (g:Frame):Prop:=(∃d,DL p g.defers d)∧∀d x r s k,g.todo≠ .call d x r s::k
theorem FL.fd {l l':List Frame} (h:FL P S H p l l'):∀g∈l,FD P S H p g:=by
 induction h with
 |one h r=>intro g hg;obtain rfl:g=_:=by simpa using hg
           exact⟨⟨_,h.defers⟩,fun d x r s k=>(not_call h.todo d x r s k).1⟩
 |cons h t ih=>
  intro g hg
  rcases List.mem_cons.1 hg with rfl|hg
  ·exact⟨⟨_,h.defers⟩,fun d x r s k=>(not_call h.todo d x r s k).1⟩
  ·exact ih g hg
theorem raise_defers (g:Frame) (ch:List PanicEntry):(g.raise ch).defers=g.defers∧(g.raise ch).todo=g.todo:=by
 unfold Frame.raise;split<;>exact⟨rfl,rfl⟩
theorem raise_mode (g:Frame) {ch:List PanicEntry} {e:PanicEntry} (h:ch.head?=some e):∃ch2,(g.raise ch).mode=.panicking ch2∧ch2.head?=some e:=by
 unfold Frame.raise
 split
 ·refine⟨_,rfl,?_⟩
  cases ch with
  |nil=>cases h
  |cons x l=>exact h
 ·exact⟨_,rfl,h⟩
theorem unwind_to_base:∀(n:Nat) (h:Frame) (hs:List Frame) (v w2:World) (ch:List PanicEntry) (e0:PanicEntry),h.mode=.panicking ch→ch.head?=some e0→FD P S H p h→(∀g∈hs,FD P S H p g)→
 WR P S (KS P S) N p v w2→∀(fr:Frame) (w1:World),runN P n (lone h (hs++[Base P]) v)=.next (lone fr [Base P] w1)→
 ((∃x,fr.leaving P w1 (.returned x))∨∃ch2,fr.leaving P w1 (.panicked ch2))→∃ch2,fr.mode=.panicking ch2∧ch2.head?=some e0∧Alike v w1:=by
 intro n
 induction n with
 |zero=>
  intro h hs v w2 ch e0 hm he hd hds hw fr w1 hr hl
  simp only[runN,Stepped.next.injEq]at hr
  obtain⟨rfl,_,rfl⟩:=lone_inj hr
  exact⟨ch,hm,he,Alike.refl _⟩
 |succ n ih=>
  intro h hs v w2 ch e0 hm he hd hds hw fr w1 hr hl
  obtain⟨⟨d',hdl⟩,htl⟩:=hd
  have hstep:stepG P true {frame:=h,callers:=hs++[Base P],status:=.running,dying:=none} v=Go.unwind P true h (hs++[Base P]) none v:=by
   unfold stepG;simp only[hm]
  generalize hdd:h.defers=ds at hdl
  cases hdl with
  | @cons r r' l l' hrr hl'=>
    obtain⟨o,o',ho,ho',hc⟩:=hw.blk r r' hrr
    have hbad:(∃x,(Instr.takeDeferred r).run P v=.halt x v)→False:=by
     rintro⟨x,hx⟩
     have:step P (lone h (hs++[Base P]) v)=.ended _ _:=step_lone_ended (by
      rw[hstep];unfold Go.unwind;simp only[hdd,Sem.runT_eq,hx,GStep.bare_after];rfl)
     simp only[runN,this]at hr
     cases hr
    have hstuck:(∀d,o≠ .deferred (some d))→False:=fun hn=>hbad (by
     simp only[Instr.takeDeferred,getObj,bind,Sem.bind,Sem.run,ho]
     cases o<;>first|exact⟨_,rfl⟩|(rename_i d;cases d<;>first|exact⟨_,rfl⟩|exact absurd rfl (hn _)))
    rcases hc with⟨_,c,c',el,fz,rfl,rfl,_⟩|⟨hN,hor⟩
    ·exact(hstuck fun d h=>by cases h).elim
    ·cases hor with
     |deferred1=>
      have hrun:(Instr.takeDeferred r).run P v=.ok [] {v with heap:=v.heap.setIfInBounds r (.deferred none)}:=by
       simp[Instr.takeDeferred,getObj,setObj,bind,Sem.bind,Sem.run,ho,pure]
      have hst:step P (lone h (hs++[Base P]) v)=.next (lone {h with defers:=[]++l} (hs++[Base P]) {v with heap:=v.heap.setIfInBounds r (.deferred none)}):=step_lone_go (by
       rw[hstep];unfold Go.unwind;simp only[hdd,Sem.runT_eq,hrun,GStep.bare_after];rfl)
      simp only[runN,hst]at hr
      obtain⟨ch2,k1,k2,k3⟩:=ih {h with defers:=[]++l} hs _ {w2 with heap:=w2.heap.setIfInBounds r' (.deferred none)} ch e0 hm he ⟨⟨_,hl'⟩,htl⟩ hds (hw.setObj hrr .deferred0 hN) fr w1 hr hl
      refine⟨ch2,k1,k2,Alike.trans (fun s=>?_) k3⟩
      by_cases hs:r=s
      ·subst hs
       have hlt:=(Array.getElem?_eq_some_iff.1 ho).1
       exact .inr ⟨⟨_,ho⟩,none,by simp[hlt]⟩
      ·exact .inl (by simp[hs])
     |_=>exact(hstuck fun d h=>by cases h).elim
  |nil=>
   have hcat:h.catches P=false:=catches_no htl
   cases hs with
   |nil=>
    exfalso
    have hst:step P (lone h ([]++[Base P]) v)=.next (lone ((Base P).raise ch) [] v):=step_lone_go (by
     rw[hstep];unfold Go.unwind;simp only[hdd,hm,hcat,Bool.false_eq_true,if_false];rfl)
    simp only[runN,hst]at hr
    obtain⟨o,w5,he5⟩:=base_raise_ends P ch v
    cases n with
    |zero=>
     simp only[runN,Stepped.next.injEq]at hr
     have:=(lone_inj hr).2.1
     simp at this
    |succ n=>simp only[runN,he5]at hr;cases hr
   |cons g2 hs2=>
    have hst:step P (lone h (g2::hs2++[Base P]) v)=.next (lone (g2.raise ch) (hs2++[Base P]) v):=step_lone_go (by
     rw[hstep];unfold Go.unwind;simp only[hdd,hm,hcat,Bool.false_eq_true,if_false];rfl)
    simp only[runN,hst]at hr
    obtain⟨ch3,m1,m2⟩:=raise_mode g2 he
    obtain⟨hd2,ht2⟩:=hds g2 (by simp)
    have hrd:=raise_defers g2 ch
    exact ih (g2.raise ch) hs2 v w2 ch3 e0 m1 m2 ⟨by rw[hrd.1];exact hd2,by rw[hrd.2];exact ht2⟩ (fun g hg=>hds g (by simp[hg])) hw fr w1 hr hl
end
end Go.Par
end
section
namespace Go.Par
def Bar (P:Program) (lf:Frame) (ltop:List Frame) (lw:World) (R:Value→World→Prop) (C:Value→World→Prop):Prop:=
 ∀T,∃n fr w1,runN P n (lone lf (ltop++[Base P]) {lw with tape:=T})=.next (lone fr [Base P] w1)∧
  ((∃v,fr.leaving P w1 (.returned v)∧R v w1)∨(∃e ch,fr.leaving P w1 (.panicked (e::ch))∧C e.v w1∧∀(S:Nat→Bool) (q:Pi) v',S (P.funcs.size+P.globals.size)=false→¬VR S q e.v v'))
def FinOf (P:Program) (S:Nat→Bool) (N:Nat) (p:Pi) (R:Value→World→Prop) (kn own:Nat→Prop) (v':Value) (w':World):Prop:=
 ∃q v w1,R v w1∧VR S q v v'∧WR P S (KS P S) N q w1 w'∧Le p q∧kn=rng q∧own=ownOf N q
def dsum (m:Nat→Nat) (d:Nat):Nat→Nat
 |0=>d
 |k+1=>dsum m d k+m k
theorem dsum_mono (m:Nat→Nat) (d:Nat) {k j:Nat} (h:k≤j):dsum m d k≤dsum m d j:=by
 induction h with
 |refl=>exact Nat.le_refl _
 |step _ ih=>simp only[dsum];omega
open Classical in
theorem splice {α:Type} [Inhabited α] (m:Nat→Nat) (a:Nat→Nat→α) (d:Nat):∃T:Nat→α,∀k j,j<m k→T (dsum m d k+j)=a k j:=by
 refine⟨fun i=>if h:∃k,dsum m d k≤i∧i<dsum m d (k+1)then a h.choose (i-dsum m d h.choose)else default,fun k j hj=>?_⟩
 have h:∃k',dsum m d k'≤dsum m d k+j∧dsum m d k+j<dsum m d (k'+1):=⟨k,by omega,by simp only[dsum];omega⟩
 simp only[dif_pos h]
 obtain⟨c,hc,hce⟩:∃c,(dsum m d c≤dsum m d k+j∧dsum m d k+j<dsum m d (c+1))∧h.choose=c:=⟨h.choose,h.choose_spec,rfl⟩
 rw[hce]
 have e:c=k:=by
  rcases Nat.lt_trichotomy c k with hlt|heq|hgt
  ·have:=dsum_mono m d (show c+1≤k by omega);omega
  ·exact heq
  ·have:=dsum_mono m d (show k+1≤c by omega);simp only[dsum]at this;omega
 subst e
 congr 1
 omega
def Hat (H:FuncId→Code→Code→Prop) (lf f:Frame):Prop:=lf.mode=.run∧f.mode=.run∧∃c c' k k',lf.todo=.code c::k∧f.todo=.code c'::k'∧H f.fn c c'
def HatC (H:FuncId→Code→Code→Prop) (f:Frame):Prop:=f.mode=.run∧∃c c' k',f.todo=.code c'::k'∧H f.fn c c'
structure HoleL (P:Program) (S:Nat→Bool) (H:FuncId→Code→Code→Prop) (N:Nat) (HA:HatT) (HP:HpostT) (C:Value→World→Prop)where
 a0:Question→Nat
 m1:Nat
 ans:Value→World→Nat→Question→Nat
 ln:Nat
 q3:Pi→Nat→Frame→World→Value→World→Pi
 val:Frame→Value
 only:∀fn c c' c0,H fn c c'→CR P S (H fn) c0 c'→H fn c0 c'∨∃w,c0=.refuse w
 marked:S (P.funcs.size+P.globals.size)=false
 bare:∀o,holeOp S o=false
 stands:∀v w w',Alike w w'→C v w'→C v w
 check:∀p lf f v cs,FrR P S H p lf f→Hat H lf f→(∀q,v.tape v.drawn q=a0 q)→∃n g1 v1 e,runN P n (lone lf cs v)=.next (lone g1 cs v1)∧g1.mode=.panicking [e]∧e.v=val lf∧
  FD P S H p g1∧v1.heap=v.heap
 ha:∀p lf f v w2,FrR P S H p lf f→Hat H lf f→WR P S (KS P S) N p v w2→C (val lf) v→HA (rng p) (ownOf N p) f w2
 pass:∀p lf f v w2 lc cs u' w3 kn3 own3,FrR P S H p lf f→Hat H lf f→WR P S (KS P S) N p v w2→HP (rng p) (ownOf N p) f w2 u' w3 kn3 own3→(∀i,i<m1→∀q,v.tape (v.drawn+i) q=ans u' w3 i q)→
  ∃n u v1,1≤n∧runN P n (lone lf (lc::cs) v)=.next (lone (lc.finish u) cs v1)∧VR S (q3 p v.heap.size f w2 u' w3) u u'∧WR P S (KS P S) N (q3 p v.heap.size f w2 u' w3) v1 w3∧
   Le p (q3 p v.heap.size f w2 u' w3)∧kn3=rng (q3 p v.heap.size f w2 u' w3)∧own3=ownOf N (q3 p v.heap.size f w2 u' w3)∧v1.tape=v.tape∧v1.drawn=v.drawn+m1∧v1.heap.size=v.heap.size+ln
structure Nd where
 p:Pi
 L:Nat
 f:Frame
 top:List Frame
 w:World
section
variable (Q:Program) (S:Nat→Bool) (H:FuncId→Code→Code→Prop) (N:Nat) (main:Bool) (base:List Frame) (Fin:FinT) (HA:HatT) (HP:HpostT)
def Nd.ct (x:Nd):Prop:=CT Q main base Fin HA HP (rng x.p) (ownOf N x.p) x.f x.top x.w
def Nd.step (x:Nd) (w2:World):GStep:=stepG Q main (gor x.f (x.top++base)) w2
def Nd.bad (x:Nd) (w2:World):Prop:=
 Env (rng x.p) x.w w2∧
 ¬((∃w3 es f2 top2,x.step Q main base w2=.go (gor f2 (top2++base)) w3 es∧Fair (rng x.p) (ownOf N x.p) w2 w3 es∧CT Q main base Fin HA HP (orNew (rng x.p) w2 w3) (orNew (ownOf N x.p) w2 w3) f2 top2 w3)∨
  (∃w3 es v b bs,base=b::bs∧x.step Q main base w2=.go (gor (b.finish v) bs) w3 es∧Fair (rng x.p) (ownOf N x.p) w2 w3 es∧Fin (orNew (rng x.p) w2 w3) (orNew (ownOf N x.p) w2 w3) v w3)∨
  (∃w3 es v,base=[]∧x.step Q main base w2=.ended (.done v) w3 es∧Fair (rng x.p) (ownOf N x.p) w2 w3 es∧Fin (orNew (rng x.p) w2 w3) (orNew (ownOf N x.p) w2 w3) v w3)∨
  (HA (rng x.p) (ownOf N x.p) x.f w2∧∃c rest,x.top=c::rest∧∀v w3 kn3 own3,HP (rng x.p) (ownOf N x.p) x.f w2 v w3 kn3 own3→CT Q main base Fin HA HP kn3 own3 (c.finish v) rest w3))
theorem Nd.bad_of (x:Nd) (h:¬x.ct Q N main base Fin HA HP):∃w2,x.bad Q N main base Fin HA HP w2:=by
 refine Classical.byContradiction fun hn=>h (CT.mk fun w2 he=>?_)
 exact Classical.byContradiction fun hx=>hn ⟨w2,he,hx⟩
def Nd.out (x:Nd) (w2:World) (o:Value×World):Prop:=
 ∃c rest kn3 own3,x.top=c::rest∧HP (rng x.p) (ownOf N x.p) x.f w2 o.1 o.2 kn3 own3∧¬CT Q main base Fin HA HP kn3 own3 (c.finish o.1) rest o.2
open Classical in
noncomputable def Nd.pick (x:Nd):World:=if h:∃w2,x.bad Q N main base Fin HA HP w2 then h.choose else x.w
theorem Nd.pick_spec (x:Nd) (h:¬x.ct Q N main base Fin HA HP):x.bad Q N main base Fin HA HP (x.pick Q N main base Fin HA HP):=by
 have:=x.bad_of Q N main base Fin HA HP h
 unfold Nd.pick
 rw[dif_pos this]
 exact this.choose_spec
open Classical in
noncomputable def Nd.pickOut (x:Nd):Value×World:=
 if h:∃o,x.out Q N main base Fin HA HP (x.pick Q N main base Fin HA HP) o then h.choose else(undef,x.w)
theorem Nd.pickOut_spec (x:Nd) (h:∃o,x.out Q N main base Fin HA HP (x.pick Q N main base Fin HA HP) o):x.out Q N main base Fin HA HP (x.pick Q N main base Fin HA HP) (x.pickOut Q N main base Fin HA HP):=by
 unfold Nd.pickOut
 rw[dif_pos h]
 exact h.choose_spec
end
end Go.Par
end
section
namespace Go.Par
section
variable {P:Program} (Q:Program) {S:Nat→Bool} {H:FuncId→Code→Code→Prop} {N:Nat} (main:Bool) (base:List Frame) (Fin:FinT) {HA:HatT} {HP:HpostT} {C:Value→World→Prop} (hl:HoleL P S H N HA HP C)
open Classical in
noncomputable def Nd.nx (x:Nd):Nd:=
 if HatC H x.f then
  match x.top with
  |c::rest=>⟨hl.q3 x.p x.L x.f (x.pick Q N main base Fin HA HP) (x.pickOut Q N main base Fin HA HP).1 (x.pickOut Q N main base Fin HA HP).2,x.L+hl.ln,c.finish (x.pickOut Q N main base Fin HA HP).1,rest,(x.pickOut Q N main base Fin HA HP).2⟩
  | []=>x
 else match x.step Q main base (x.pick Q N main base Fin HA HP)with
 |.go g w3 _=>⟨ext x.p x.L (x.pick Q N main base Fin HA HP).heap.size (w3.heap.size-(x.pick Q N main base Fin HA HP).heap.size),x.L+(w3.heap.size-(x.pick Q N main base Fin HA HP).heap.size),
    g.frame,g.callers.take (g.callers.length-base.length),w3⟩
 |_=>x
noncomputable def Nd.path (x:Nd):Nat→Nd
 |0=>x
 |k+1=>(Nd.path x k).nx Q main base Fin hl
open Classical in
noncomputable def Nd.cnt (x:Nd):Nat:=
 if HatC H x.f then hl.m1 else(gw (x.step Q main base (x.pick Q N main base Fin HA HP))).drawn-(x.pick Q N main base Fin HA HP).drawn
open Classical in
noncomputable def Nd.piece (x:Nd) (i:Nat):Question→Nat:=
 if HatC H x.f then hl.ans (x.pickOut Q N main base Fin HA HP).1 (x.pickOut Q N main base Fin HA HP).2 i else(x.pick Q N main base Fin HA HP).tape ((x.pick Q N main base Fin HA HP).drawn+i)
end
instance : Inhabited (Question → Nat) := ⟨fun _ => 0⟩
def Ends (P:Program) (fr:Frame) (w1:World):Prop:=(∃v,fr.leaving P w1 (.returned v))∨∃ch,fr.leaving P w1 (.panicked ch)
theorem Ends.after {P:Program} {fr:Frame} {w1:World} (h:Ends P fr w1):∃b,step P (lone fr [Base P] w1)=.next (lone b [] w1)∧∃o w2,step P (lone b [] w1)=.ended o w2:=by
 rcases h with⟨v,h⟩|⟨ch,h⟩
 ·exact⟨_,step_leave_returned h,base_finish_ends P v w1⟩
 ·exact⟨_,step_leave_panicked h,base_raise_ends P ch w1⟩
theorem before {P:Program} {m0:Machine} {n:Nat} {fr:Frame} {w1:World} (h:runN P n m0=.next (lone fr [Base P] w1)) (he:Ends P fr w1) {ν:Nat} {g:Frame} {gs:List Frame} {v:World}
 (hv:runN P ν m0=.next (lone g (gs++[Base P]) v)):ν≤n∧runN P (n-ν) (lone g (gs++[Base P]) v)=.next (lone fr [Base P] w1):=by
 obtain⟨b,h1,o,w2,h2⟩:=he.after
 have hle:ν≤n:=by
  rcases Nat.lt_or_ge n ν with hlt|hge
  ·exfalso
   obtain⟨j,rfl⟩:∃j,ν=(n+1)+j:=⟨ν-(n+1),by omega⟩
   rw[runN_add,runN_one P n _ _ h,h1]at hv
   cases j with
   |zero=>
    simp only[runN,Stepped.next.injEq]at hv
    have:=(lone_inj hv).2.1
    simp at this
   |succ j=>simp only[runN,h2]at hv;cases hv
  ·exact hge
 refine⟨hle,?_⟩
 have:n=ν+(n-ν):=by omega
 rw[this,runN_add,hv]at h
 exact h
theorem at_end {P:Program} {σ:Machine} {r:Nat} {fr b:Frame} {w1 v1:World} (h:runN P r σ=.next (lone fr [Base P] w1)) (hs:step P σ=.next (lone b [] v1)) (hb:∃o w2,step P (lone b [] v1)=.ended o w2):r=0∧σ=lone fr [Base P] w1:=by
 obtain⟨o,w2,hb⟩:=hb
 cases r with
 |zero=>simp only[runN,Stepped.next.injEq]at h;exact⟨rfl,h⟩
 |succ r=>
  exfalso
  simp only[runN,hs]at h
  cases r with
  |zero=>
   simp only[runN,Stepped.next.injEq]at h
   have:=(lone_inj h).2.1
   simp at this
  |succ r=>simp only[runN,hb]at h;cases h
theorem no_end {P:Program} {σ:Machine} {r:Nat} {fr:Frame} {w1 w2:World} {o:Outcome} (h:runN P r σ=.next (lone fr [Base P] w1)) (he:Ends P fr w1) (hs:step P σ=.ended o w2):False:=by
 cases r with
 |zero=>
  simp only[runN,Stepped.next.injEq]at h
  obtain⟨b,h1,_⟩:=he.after
  rw[h,h1]at hs;cases hs
 |succ r=>simp only[runN,hs]at h;cases h
theorem FL.above {P:Program} {S:Nat→Bool} {H:FuncId→Code→Code→Prop} {p:Pi} {f f':Frame} {t t':List Frame} (h:FL P S H p (f::t) (f'::t')) {c c':Code} (hh:H f'.fn c c'):∃g g' r r',t=g::r∧t'=g'::r'∧FL P S H p (g::r) (g'::r'):=by
 cases h with
 |one h r=>exact absurd (h.fn▸hh) (r.2 c c')
 |cons h k=>
  cases k with
  |one h r=>exact⟨_,_,_,_,rfl,rfl,.one h r⟩
  |cons h t=>exact⟨_,_,_,_,rfl,rfl,.cons h t⟩
end Go.Par
end
section
namespace Go.Par
section
variable {P:Program} {F:Array Func} {S:Nat→Bool} {H:FuncId→Code→Code→Prop} {N:Nat} {HA:HatT} {HP:HpostT} {C:Value→World→Prop}
theorem hat_of {p:Pi} {f f':Frame} {t t':List Frame} (hl:HoleL P S H N HA HP C) (hf:FL P S H p (f::t) (f'::t')) (hh:HatC H f'):Hat H f f'∨∃w k,f.todo=.code (.refuse w)::k∧f.mode=.run:=by
 obtain⟨hm,c,c',k',ht,hH⟩:=hh
 have hmo:=hf.head.mode
 rw[hm]at hmo
 have hrun:f.mode=.run:=by generalize f.mode=o at hmo;cases hmo;rfl
 have htl:=hf.head.todo
 rw[ht]at htl
 have key:∀x,f.todo=x→TL P S (H f.fn) p x (.code c'::k')→Hat H f f'∨∃w k,f.todo=.code (.refuse w)::k∧f.mode=.run:=by
  intro x hx htl
  cases htl with
  |cons hi htl=>
   cases hi with
   | @code c0 _ hcr=>
     rcases hl.only _ c c' c0 hH (hf.head.fn▸hcr)with h|⟨w,h⟩
     ·exact .inl ⟨hrun,hm,c0,c',_,k',hx,ht,h⟩
     ·rw[h]at hx;exact .inr ⟨w,_,hx,hrun⟩
 exact key _ rfl htl
theorem ct_of_bar {p:Pi} (hc:Closed P F S H) (hg:Globs P S p) {lf f:Frame} {ltop top:List Frame} {lw w:World} (hw:WR P S (KS P S) N p lw w)
 (hf:FL P S H p (lf::ltop) (f::top)) {R:Value→World→Prop} (hl:HoleL P S H N HA HP C) (hbar:Bar P lf ltop lw R C) (main:Bool) (base:List Frame) (hb:Bot P S main base):
 CT (withF P F) main base (FinOf P S N p R) HA HP (rng p) (ownOf N p) f top w:=by
 refine Classical.byContradiction fun hct=>?_
 let Fin:=FinOf P S N p R
 let x0:Nd:=⟨p,lw.heap.size,f,top,w⟩
 have hx0:¬x0.ct (withF P F) N main base Fin HA HP:=hct
 let X:=fun k=>Nd.path (withF P F) main base Fin hl x0 k
 let pk:=fun k=>(X k).pick (withF P F) N main base Fin HA HP
 let m:=fun k=>(X k).cnt (withF P F) main base Fin hl
 let D:=fun k=>dsum m lw.drawn k
 let start:=fun T:Nat→Question→Nat=>lone lf (ltop++[Base P]) {lw with tape:=T}
 have inv:∀k (T:Nat→Question→Nat),(∀j,j<k→∀i,i<m j→T (D j+i)=(X j).piece (withF P F) main base Fin hl i)→∃ν g gs v,k≤ν∧runN P ν (start T)=.next (lone g (gs++[Base P]) v)∧WR P S (KS P S) N (X k).p v (X k).w∧
  FL P S H (X k).p (g::gs) ((X k).f::(X k).top)∧Globs P S (X k).p∧v.tape=T∧v.drawn=D k∧v.heap.size=(X k).L∧(¬(X k).ct (withF P F) N main base Fin HA HP)∧Le p (X k).p:=by
  intro k
  induction k with
  |zero=>intro T _;exact⟨0,lf,ltop,{lw with tape:=T},Nat.le_refl _,rfl,hw.tape T lw.drawn,hf,hg,rfl,rfl,rfl,hx0,Le.refl p⟩
  |succ k ih=>
   intro T hT
   obtain⟨ν,g,gs,v,e0,e1,e2,e3,e4,e5,e6,e7,e8,e9⟩:=ih T fun j hj i hi=>hT j (by omega) i hi
   obtain⟨henv,hbad⟩:=(X k).pick_spec (withF P F) N main base Fin HA HP e8
   have hw2:WR P S (KS P S) N (X k).p v (pk k):=e2.env henv
   obtain⟨n,fr,w1,c1,c2⟩:=hbar T
   have hends:Ends P fr w1:=by
    rcases c2 with⟨rv,h,_⟩|⟨e,ch,h,_⟩
    ·exact .inl ⟨rv,h⟩
    ·exact .inr ⟨_,h⟩
   obtain⟨hle,hrest⟩:=before c1 hends e1
   by_cases hhat:HatC H (X k).f
   ·
    rcases hat_of hl e3 hhat with hh|⟨ws,kk,hrf,hrm⟩
    ·have hcnt:m k=hl.m1:=by show Nd.cnt _ _ _ _ hl (X k)=_;unfold Nd.cnt;rw[if_pos hhat]
     obtain⟨lc,fc,lrest,rest,hgs,htop,hfl⟩:∃lc fc lrest rest,gs=lc::lrest∧(X k).top=fc::rest∧FL P S H (X k).p (lc::lrest) (fc::rest):=by
      obtain⟨_,_,c,c',_,_,_,_,hH⟩:=hh
      obtain⟨lc,fc,lr,r,h1,h2,h3⟩:=e3.above hH
      exact⟨lc,fc,lr,r,h1,h2,h3⟩
     have hpre:HA (rng (X k).p) (ownOf N (X k).p) (X k).f (pk k):=by
      let T2:Nat→Question→Nat:=fun i=>if i<D k then T i else hl.a0
      have hT2:∀j,j<k→∀i,i<m j→T2 (D j+i)=(X j).piece (withF P F) main base Fin hl i:=fun j hj i hi=>by
       have h1:=dsum_mono m lw.drawn (show j+1≤k by omega)
       simp only[dsum]at h1
       have:D j+i<D k:=by show dsum m lw.drawn j+i<dsum m lw.drawn k;omega
       show(if D j+i<D k then T (D j+i)else hl.a0)=_
       rw[if_pos this]
       exact hT j (by omega) i hi
      obtain⟨ν2,g2,gs2,v2,_,f1,f2,f3,_,f5,f6,_,_,_⟩:=ih T2 hT2
      have hh2:Hat H g2 (X k).f∨_:=hat_of hl f3 hhat
      obtain⟨n2,fr2,w3,d1,d2⟩:=hbar T2
      have hends2:Ends P fr2 w3:=by
       rcases d2 with⟨rv,h,_⟩|⟨e,ch,h,_⟩
       ·exact .inl ⟨rv,h⟩
       ·exact .inr ⟨_,h⟩
      obtain⟨_,hrest2⟩:=before d1 hends2 f1
      rcases hh2 with hh2|⟨ws,kk,hrf,hrm⟩
      ·obtain⟨nn,g3,v3,e,p1,p2,p3,p4,p5⟩:=hl.check (X k).p g2 (X k).f v2 (gs2++[Base P]) f3.head hh2 (fun q=>by
        rw[f5,f6]
        show(if D k<D k then T (D k)else hl.a0) q=hl.a0 q
        rw[if_neg (Nat.lt_irrefl _)])
       have hgo:runN P (ν2+nn) (start T2)=.next (lone g3 (gs2++[Base P]) v3):=by rw[runN_add,f1];exact p1
       obtain⟨_,hrest3⟩:=before d1 hends2 hgo
       have hw3:WR P S (KS P S) N (X k).p v3 (X k).w:=⟨f2.inj,fun r r' h=>by rw[p5];exact f2.blk r r' h,by rw[p5];exact f2.low,f2.fix,by rw[p5];exact f2.glob,f2.glob'⟩
       have hfd:∀x∈gs2,FD P S H (X k).p x:=fun x hx=>f3.fd x (by simp[hx])
       obtain⟨ch2,q1,q2,q3⟩:=unwind_to_base _ g3 gs2 v3 (X k).w [e] e p2 rfl p4 hfd hw3 fr2 w3 hrest3 hends2
       rcases d2 with⟨rv,h,_⟩|⟨e',ch',h,hC,_⟩
       ·have:=h.1;rw[q1]at this;cases this
       ·have:=h.1
        rw[q1]at this
        simp only[FrameMode.panicking.injEq]at this
        subst this
        simp only[List.head?_cons,Option.some.injEq]at q2
        subst q2
        rw[p3]at hC
        have hal:Alike v2 w3:=fun r=>by have:=q3 r;rw[p5]at this;exact this
        exact hl.ha (X k).p g2 (X k).f v2 (pk k) f3.head hh2 (f2.env henv) (hl.stands _ _ _ hal hC)
      ·exact(no_end hrest2 hends2 (step_lone_ended (o:=.unsupported _ (g2.pos P)) (w':=v2) (by
        unfold stepG;simp only[hrm];unfold stepG.exec;simp only[hrf];rfl))).elim
     have hout:∃o,(X k).out (withF P F) N main base Fin HA HP (pk k) o:=by
      refine Classical.byContradiction fun hno=>hbad (.inr (.inr (.inr ⟨hpre,fc,rest,htop,fun v w3 kn3 own3 hp=>?_⟩)))
      exact Classical.byContradiction fun hx=>hno ⟨(v,w3),fc,rest,kn3,own3,htop,hp,hx⟩
     obtain⟨fc2,rest2,kn3,own3,htop2,hHP,hnct⟩:=(X k).pickOut_spec (withF P F) N main base Fin HA HP hout
     rw[htop]at htop2
     obtain⟨rfl,rfl⟩:fc=fc2∧rest=rest2:=by simpa using htop2
     obtain⟨nn,u,v1,p0,p1,p2,p4,p5,p6,p7,p8,p9,p10⟩:=hl.pass (X k).p g (X k).f v (pk k) lc (lrest++[Base P]) _ _ kn3 own3 e3.head hh hw2 hHP (fun i hi q=>by
      have:=hT k (by omega) i (by rw[hcnt];exact hi)
      rw[e5,e6,this]
      unfold Nd.piece;rw[if_pos hhat])
     have hnx:X (k+1)=⟨hl.q3 (X k).p (X k).L (X k).f (pk k) ((X k).pickOut (withF P F) N main base Fin HA HP).1 ((X k).pickOut (withF P F) N main base Fin HA HP).2,(X k).L+hl.ln,fc.finish ((X k).pickOut (withF P F) N main base Fin HA HP).1,rest,((X k).pickOut (withF P F) N main base Fin HA HP).2⟩:=by
      show(X k).nx (withF P F) main base Fin hl=_
      unfold Nd.nx;rw[if_pos hhat,htop]
     rw[hnx]
     rw[e7]at p2 p4 p5 p6 p7
     refine⟨ν+nn,lc.finish u,lrest,v1,by omega,by rw[runN_add,e1,hgs];exact p1,p4,(hfl.mono p5).top ((hfl.mono p5).head.finish p2) (finish_round _ _),e4.mono p5,p8.trans e5,?_,by rw[p10,e7],?_,e9.trans p5⟩
     ·rw[p9,e6]
      show D k+hl.m1=dsum m lw.drawn k+m k
      rw[hcnt]
     ·unfold Nd.ct
      rw[←p6,←p7]
      exact hnct
    ·exact(no_end hrest hends (step_lone_ended (o:=.unsupported _ (g.pos P)) (w':=v) (by
      unfold stepG;simp only[hrm];unfold stepG.exec;simp only[hrf];rfl))).elim
   ·
    have hcnt:m k=(gw ((X k).step (withF P F) main base (pk k))).drawn-(pk k).drawn:=by show Nd.cnt _ _ _ _ hl (X k)=_;unfold Nd.cnt;rw[if_neg hhat]
    have htapes:Tapes (m k) v (pk k):=fun j hj q=>by
     have:=hT k (by omega) j hj
     rw[e5,e6,this]
     unfold Nd.piece;rw[if_neg hhat]
    have hd:(gw (stepG (withF P F) main {frame:=(X k).f,callers:=(X k).top++base,status:=.running,dying:=none} (pk k))).drawn≤(pk k).drawn+m k:=by
     rw[hcnt]
     show(gw ((X k).step (withF P F) main base (pk k))).drawn≤(pk k).drawn+((gw ((X k).step (withF P F) main base (pk k))).drawn-(pk k).drawn)
     omega
    have hsim:=Sim.step (b:=Base P) (bs:=[]) (base':=base) hc hw2 e4 e3 (fun c c' k1 k1' hm h1 h2 hH=>hhat ⟨by
     have hmo:=e3.head.mode
     rw[hm]at hmo;generalize(X k).f.mode=o at hmo;cases hmo;rfl,c,c',k1',h2,e3.head.fn▸hH⟩) (fun⟨_,o,_,_,_,_,_,_,h5,_⟩=>by rw[hl.bare o.op]at h5;cases h5) true main hb htapes hd
    rcases hsim with⟨o,w3,es,hs⟩|⟨q,ch,ch',w3,es,hch,hs⟩|⟨c,nn,v1,w3,es,es',hm,hes,hcase⟩
    ·exact(no_end hrest hends (step_lone_ended (o:=o) (w':=w3) (by rw[hs];rfl))).elim
    ·exfalso
     have hstep:step P (lone g (gs++[Base P]) v)=.next (lone ((Base P).raise ch) [] w3):=step_lone_go (by rw[hs];rfl)
     obtain⟨_,hσ⟩:=at_end hrest hstep (base_raise_ends P ch w3)
     rw[hσ]at hstep
     rcases c2 with⟨rv,h,_⟩|⟨e,ch2,h,_,hnv⟩
     ·rw[step_leave_returned h]at hstep
      simp only[Stepped.next.injEq]at hstep
      have q1:=(lone_inj hstep).1
      rw[base_finish]at q1
      have:=congrArg (fun f:Frame=>f.mode) q1
      simp[Base,Frame.raise]at this
     ·rw[step_leave_panicked h]at hstep
      simp only[Stepped.next.injEq]at hstep
      have q1:=congrArg (fun f:Frame=>f.mode) (lone_inj hstep).1
      simp only[Base,Frame.raise,FrameMode.panicking.injEq]at q1
      rw[←q1]at hch
      cases hch with
      |cons b1 b2 hv _=>exact hnv S q _ hl.marked hv
    ·obtain⟨hfair,hr1,hr2⟩:=Moved.fair hw2 hm hes
     rcases hcase with⟨f2,f2',t2,t2',hfl,hs,hs'⟩|⟨rv2,rv2',hv,hs,hs'⟩
     ·have hstep:step P (lone g (gs++[Base P]) v)=.next (lone f2 (t2++[Base P]) v1):=step_lone_go (by rw[hs];rfl)
      have hk1:=runN_one P ν _ _ e1
      rw[hstep]at hk1
      have hs2:(X k).step (withF P F) main base (pk k)=.go (gor f2' (t2'++base)) w3 es':=hs'
      have hnx:X (k+1)=⟨ext (X k).p (X k).L (pk k).heap.size c,(X k).L+c,f2',t2',w3⟩:=by
       show(X k).nx (withF P F) main base Fin hl=_
       unfold Nd.nx
       rw[if_neg hhat]
       have hs3:(X k).step (withF P F) main base ((X k).pick (withF P F) N main base Fin HA HP)=.go (gor f2' (t2'++base)) w3 es':=hs'
       rw[hs3]
       have hsz:w3.heap.size-((X k).pick (withF P F) N main base Fin HA HP).heap.size=c:=by
        have h6:w3.heap.size=(pk k).heap.size+c:=hm.size'
        show w3.heap.size-(pk k).heap.size=c
        rw[h6,Nat.add_sub_cancel_left]
       simp only[hsz]
       congr 1
       rw[List.length_append,Nat.add_sub_cancel]
       exact List.take_left
      rw[hnx]
      have hrel:=hm.rel
      rw[e7]at hrel hfl hr1 hr2
      have hle2:=ext_le (X k).p (X k).L (pk k).heap.size c
      refine⟨ν+1,f2,t2,v1,by omega,hk1,hrel,hfl,e4.mono hle2,hm.tape.trans e5,?_,by rw[hm.size,e7],?_,e9.trans hle2⟩
      ·rw[hm.drawn,e6]
       have:m k=nn:=by
        rw[hcnt,hs2]
        have h5:w3.drawn=(pk k).drawn+nn:=hm.drawn'
        show w3.drawn-(pk k).drawn=nn
        rw[h5,Nat.add_sub_cancel_left]
       show D k+nn=dsum m lw.drawn k+m k
       rw[this]
      ·intro hct2
       refine hbad (.inl ⟨w3,es',f2',t2',hs2,hfair,?_⟩)
       unfold Nd.ct at hct2
       rw[hr1,hr2]at hct2
       exact hct2
     ·exfalso
      have hstep:step P (lone g (gs++[Base P]) v)=.next (lone ((Base P).finish rv2) [] v1):=step_lone_go (by rw[hs];rfl)
      obtain⟨_,hσ⟩:=at_end hrest hstep (base_finish_ends P rv2 v1)
      rw[hσ]at hstep
      rcases c2 with⟨rv,h,hR⟩|⟨e,ch2,h,_⟩
      ·rw[step_leave_returned h]at hstep
       simp only[Stepped.next.injEq]at hstep
       obtain⟨q1,_,q3⟩:=lone_inj hstep
       rw[base_finish,base_finish]at q1
       have hvv:rv=rv2:=by
        have:=congrArg (fun f:Frame=>f.tmps) q1
        simpa using this
       subst hvv;subst q3
       have hfin:Fin (orNew (rng (X k).p) (pk k) w3) (orNew (ownOf N (X k).p) (pk k) w3) rv2' w3:=⟨_,rv,w1,hR,hv,hm.rel,e9.trans (ext_le _ _ _ _),hr1.symm,hr2.symm⟩
       rcases hs' with⟨b',bs',hbase,hs'⟩|⟨hbase,hs'⟩
       ·exact hbad (.inr (.inl ⟨w3,es',rv2',b',bs',hbase,hs',hfair,hfin⟩))
       ·exact hbad (.inr (.inr (.inl ⟨w3,es',rv2',hbase,hs',hfair,hfin⟩)))
      ·rw[step_leave_panicked h]at hstep
       simp only[Stepped.next.injEq]at hstep
       have q1:=(lone_inj hstep).1
       rw[base_finish]at q1
       have:=congrArg (fun f:Frame=>f.mode) q1
       simp[Base,Frame.raise]at this
 obtain⟨T,hT⟩:=splice m (fun k j=>(X k).piece (withF P F) main base Fin hl j) lw.drawn
 obtain⟨n,fr,w1,c1,c2⟩:=hbar T
 have hends:Ends P fr w1:=by
  rcases c2 with⟨rv,h,_⟩|⟨e,ch,h,_⟩
  ·exact .inl ⟨rv,h⟩
  ·exact .inr ⟨_,h⟩
 obtain⟨ν,g,gs,v,e0,e1,_⟩:=inv (n+1) T fun j _ i hi=>hT j i hi
 obtain⟨hle,_⟩:=before c1 hends e1
 omega
end
end Go.Par
end
