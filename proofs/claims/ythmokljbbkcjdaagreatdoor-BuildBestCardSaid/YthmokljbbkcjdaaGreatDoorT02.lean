/- A part. Conditions: none. -/
import Derived.Test.YthmokljbbkcjdaaGreatDoorT01
set_option linter.all false
namespace Go.aO
variable {dE t t':List Frame} {f f' fr g:Frame} {id m n r:Nat} {k l l':List Item} {kn own:Nat->Prop} {lw v w1 w2:World} {σ:Machine}
section
variable {P:Program} {F:Array Func} {S:Nat->Bool} {H:FuncId->Code->Code->Prop} {N:Nat} {p:Pi} {w w':World} {b:Frame} {bs:List Frame} {aW:List Frame}
theorem Kc {f:Nat} (h:KS P S (.label (100000+f))):S (P.funcs.size+P.globals.size+1+f)=false:=by
 have h:(decide (100000+f<100000)||!S (P.funcs.size+P.globals.size+1+(100000+f-100000)))=true:=h;rw[Nat.add_sub_cancel_left,decide_eq_false (by omega),Bool.false_or]at h;simpa using h
theorem Ke {f:Nat} (h:S (P.funcs.size+P.globals.size+1+f)=false):KS P S (.label (100000+f)):=by
 show(decide (100000+f<100000)||!S (P.funcs.size+P.globals.size+1+(100000+f-100000)))=true;rw[Nat.add_sub_cancel_left,h];simp
theorem TL.kind {H:Code->Code->Prop} (h:TL P S H p l l'):(match l with|.call _ true _ _::_=>CallKind.wrapped|_=>CallKind.normal)=.normal/\(match l' with|.call _ true _ _::_=>CallKind.wrapped|_=>CallKind.normal)=.normal:=by
 cases h with
 |nil=>exact⟨rfl,rfl⟩
 |cons hi ht=>cases hi<;>exact⟨rfl,rfl⟩
theorem FL.head (h:FL P S H p (f::t) (f'::t')):kV P S H p f f':=by
 cases h with
 |one h=>exact h
 |cons h=>exact h
theorem FL.top {g':Frame} (h:FL P S H p (f::t) (f'::t')) (hg:kV P S H p g g') (hr:g.roundOf=f.roundOf/\g.fn=f.fn):FL P S H p (g::t) (g'::t'):=by
 cases h with
 |one h r=>exact .one hg ⟨hr.1.trans r.1,by rw[hr.2];exact r.2⟩
 |cons h t=>exact .cons hg t
theorem dL (f:Frame) (v:Value):(f.finish v).roundOf=f.roundOf/\(f.finish v).fn=f.fn:=by
 unfold Frame.finish;split<;>exact⟨rfl,rfl⟩
theorem iX (f:Frame) (v:List PanicEntry):(f.raise v).roundOf=f.roundOf/\(f.raise v).fn=f.fn:=by
 unfold Frame.raise;split<;>exact⟨rfl,rfl⟩
theorem dC.apply (hc:Closed P F S H) (hw:WR P S (KS P S) N p w w') {top:List Frame} (hf:FL P S H p (f::top) (f'::dE)) (hm:kK m w w')
 {s s':Sem Next} (hs:SR P F S (KS P S) N (QX S (KS P S)) s s' p) (hd:(gw (stepG.apply (ae P F) true f' (dE++aW) none s' w')).drawn<=w'.drawn+m):
 dC P S H N p w w' b bs aW (stepG.apply P true f (top++b::bs) none s w) (stepG.apply (ae P F) true f' (dE++aW) none s' w'):=by
 have ho:=SR.sound hs w w' #[] #[] m hw hm (Nat.le_trans (qh ..) hd);have fT:=hf.head;have hk:=fT.todo.kind;have Sp:(f'.kind==CallKind.early)=false:=by rw[fT.kJ];rfl
 rcases ho with⟨x,w1,es1,e,hx⟩|⟨c,n,w1,fW,es1,fs,k1,k2,⟨x,y,e,e',hq⟩|⟨v,v',e,e',hv⟩⟩
 .cases x with
  |stuck why=>exact .inl ⟨_,_,_,by simp only[stepG.apply,if_true,e];rfl⟩
  |unsupported u=>cases u<;>first|exact absurd hx id|exact .inl ⟨_,_,_,by simp only[stepG.apply,if_true,e];rfl⟩
  |_=>exact absurd hx id
 .rw[Array.empty_append]at e';have hle:=fB p w.heap.size w'.heap.size c;have bp:∀z∈seen (ae P F) f'.fn fs,JE N (ext p w.heap.size w'.heap.size c) z:=fun z hz=>k2 z (mem_seen hz);have AE:=hf.mono hle;cases hq with
  | @value v v' h=>
    have t:=dC.trans (b:=b) (bs:=bs) (aW:=aW) k1 (es:=seen P f.fn (if f.kind==CallKind.early then #[]else es1)) bp (dC.go k1.rel (AE.top (AE.head.finish h) (dL f v)));simpa only[stepG.apply,if_true,e,e',Sp,Bool.false_eq_true,if_false,GStep.after]using t
  |skip=>
   have t:=dC.trans (b:=b) (bs:=bs) (aW:=aW) k1 (es:=seen P f.fn (if f.kind==CallKind.early then #[]else es1)) bp (dC.go k1.rel (AE.top (AE.head.finish VR.undef) (dL f _)));simpa only[stepG.apply,if_true,e,e',Sp,Bool.false_eq_true,if_false,GStep.after]using t
  | @enter g xs bg hg h=>
    have t:=dC.trans (b:=b) (bs:=bs) (aW:=aW) k1 (es:=seen P f.fn (if f.kind==CallKind.early then #[]else es1)) bp (dC.go k1.rel (FL.cons (kV.enter hc hg h hk.1 hk.2) AE));simp only[stepG.apply,if_true,e,e',Sp,Bool.false_eq_true,if_false,GStep.after];exact t
  | @round l l' g xs bg a1 a2 hl hg h h1 h2 hz=>
    have hn:∀a b,¬H g a b:=(hc.x9 g hg).2 (Kc hz);have t:=dC.trans (b:=b) (bs:=bs) (aW:=aW) k1 (es:=seen P f.fn (if f.kind==CallKind.early then #[]else es1)) bp (dC.go k1.rel (FL.cons (kV.J9 hn hl hg h h1 h2) AE));simpa only[stepG.apply,if_true,e,e',Sp,Bool.false_eq_true,if_false,GStep.after,List.cons_append]using t
 .rw[Array.empty_append]at e';have hle:=fB p w.heap.size w'.heap.size c;have bp:∀z∈seen (ae P F) f'.fn fs,JE N (ext p w.heap.size w'.heap.size c) z:=fun z hz=>k2 z (mem_seen hz);have AE:=hf.mono hle;have t:=dC.trans (b:=b) (bs:=bs) (aW:=aW) k1 (es:=seen P f.fn (if f.kind==CallKind.early then #[]else es1)) bp (dC.go k1.rel (AE.top (AE.head.raise (.cons false false hv .nil)) (iX f _)));simpa only[stepG.apply,if_true,e,e',Sp,Bool.false_eq_true,if_false,GStep.after]using t
end
section
variable {P:Program} {F:Array Func} {S:Nat->Bool} {H:FuncId->Code->Code->Prop} {N:Nat} {p:Pi} {w w':World} {b:Frame} {bs:List Frame} {aW:List Frame}
def Of (P:Program) (S:Nat->Bool) (main':Bool) (aW:List Frame):Prop:=aW=[]->main'=true/\∀f,S f=true->P.inits.idxOf? f=none
theorem dC.doReturn (hw:WR P S (KS P S) N p w w') {top:List Frame} (hf:FL P S H p (f::top) (f'::dE)) (main main':Bool) (hb:Of P S main' aW) {v v':Value} (hv:VR S p v v'):
 dC P S H N p w w' b bs aW (Go.doReturn P main f (top++b::bs) none v w) (Go.doReturn (ae P F) main' f' (dE++aW) none v' w'):=by
 have h1:=hf.head.kind;have h2:=hf.head.kJ;have h3:=hf.head.fn;have h4:=hf.head.MC;cases hf with
 |one h r=>
  cases aW with
  |nil=>
   obtain⟨rfl,iA⟩:=hb rfl;have hi:(ae P F).inits.idxOf? f'.fn=none:=by rw[<-h3];exact iA _ h4
   unfold Go.doReturn;simp only[h1,h2,List.nil_append,hi];exact dC.Ka hw hv
  |cons b' vL=>unfold Go.doReturn;rw[h1,h2];exact dC.ret hw hv b' vL
 |cons h t=>
  unfold Go.doReturn;rw[h1,h2];cases t with
  |one h r=>exact dC.go hw (.one (h.finish hv) ⟨(dL _ _).1.trans r.1,by rw[(dL _ _).2];exact r.2⟩)
  |cons h t=>exact dC.go hw (.cons (h.finish hv) t)
def vM:Option Code->Bool
 |none=>true
 |some .ret=>true
 |_=>false
def gQ (P:Program) (main:Bool) (fr:Frame) (callers:List Frame) (jump:Option Code) (w:World):GStep:=
 match fr.roundOf with
 |none=>if vM jump then .go {frame:={fr with mode:=.returning},callers,status:=.running,dying:=none} w else .ended (.stuck "exit, goto: no such block or label" (fr.pos P)) w
 |some l=>
  GStep.after (seen P fr.fn ((Instr.endRound l jump).runT P w #[]).2)<|match((Instr.endRound l jump).runT P w #[]).1 with
  |.ok v w=>Go.doReturn P main fr callers none v w
  |.halt _ w=>.ended (.stuck "range over a function: no such loop" (fr.pos P)) w
theorem lz (main:Bool) (f:Frame) (cs:List Frame) (hk:f.kind=.normal) (v:Value) (w:World):gw (Go.doReturn P main f cs none v w)=w:=by
 unfold Go.doReturn;rw[hk];cases cs with
 |nil=>
  simp only;split
  .rfl
  .split<;>rfl
 |cons c cs=>rfl
theorem iY (main:Bool) (h:f.roundOf=none) (cs:List Frame) (jump:Option Code) (w:World):
 gQ P main f cs jump w=if vM jump then .go {frame:={f with mode:=.returning},callers:=cs,status:=.running,dying:=none} w else .ended (.stuck "exit, goto: no such block or label" (f.pos P)) w:=by
 unfold gQ;split
 .rfl
 .rename_i h2;rw[h]at h2;cases h2
theorem iZ (main:Bool) {l:Nat} (h:f.roundOf=some l) (cs:List Frame) (jump:Option Code) (w:World):
 gQ P main f cs jump w=GStep.after (seen P f.fn ((Instr.endRound l jump).runT P w #[]).2) (match((Instr.endRound l jump).runT P w #[]).1 with
 |.ok v w=>Go.doReturn P main f cs none v w
 |.halt _ w=>.ended (.stuck "range over a function: no such loop" (f.pos P)) w):=by
 unfold gQ;split
 .rename_i h2;rw[h]at h2;cases h2
 .rename_i h2;rw[h]at h2;cases h2;rfl
theorem Gf {x y:Option Nat} (h:RR p x y):(x=none/\y=none)\/∃l l',x=some l/\y=some l'/\p l l':=by
 cases h with
 |none=>exact .inl ⟨rfl,rfl⟩
 |some h=>exact .inr ⟨_,_,rfl,rfl,h⟩
theorem dC.leave (hw:WR P S (KS P S) N p w w') {top:List Frame} (hf:FL P S H p (f::top) (f'::dE)) (main main':Bool) (hb:Of P S main' aW) (jump:Option Code) (hj:∀c,jump=some c->codeOk P S c=true)
 (hm:kK m w w') (hd:(gw (gQ (ae P F) main' f' (dE++aW) jump w')).drawn<=w'.drawn+m):
 dC P S H N p w w' b bs aW (gQ P main f (top++b::bs) jump w) (gQ (ae P F) main' f' (dE++aW) jump w'):=by
 have fT:=hf.head;rcases Gf fT.round with⟨h1,h2⟩|⟨l,l',h1,h2,hl⟩
 .rw[iY main h1,iY main' h2];cases hj:vM jump with
  |true=>exact dC.go hw (hf.top (g:={f with mode:=.returning}) (g':={f' with mode:=.returning}) ⟨fT.fn,fT.MC,fT.tmps,fT.todo,fT.defers,.returning,fT.kind,fT.kJ,fT.round,fT.x9,fT.nd,fT.wide⟩ ⟨rfl,rfl⟩)
  |false=>exact dC.ended ..
 .rw[iZ main' h2]at hd;rw[iZ main h1,iZ main' h2];rw[jJ]at hd
  refine dC.run (SR.endRound hl jump hj) hw hm (ev:=fun r es=>seen P f.fn es) (Od:=fun r es=>seen (ae P F) f'.fn es) (fun r es e he=>mem_seen he)
   (k:=fun r=>match r with|.ok v w=>Go.doReturn P main f (top++b::bs) none v w|.halt _ w=>.ended (.stuck "range over a function: no such loop" (f.pos P)) w)
   (k':=fun r=>match r with|.ok v w=>Go.doReturn (ae P F) main' f' (dE++aW) none v w|.halt _ w=>.ended (.stuck "range over a function: no such loop" (f'.pos (ae P F))) w)
   hd ?_ ?_ ?_ ?_
  .intro r;cases r with
   |ok v w=>simp only;rw[lz _ _ _ fT.kJ];exact Nat.le_refl _
   |halt=>exact Nat.le_refl _
  .intro x w1 _;exact⟨_,_,_,rfl⟩
  .intro c n w1 fW x y qF hv _ _;exact dC.doReturn qF.rel (hf.mono (fB _ _ _ _)) main main' hb hv
  .intro c n w1 fW v v' qF hv;exact dC.ended ..
theorem kV.mk' (h:kV P S H p f f') (hl:TL P S (H f.fn) p l l') {ds mG:List Deferred} (hd:DL p ds mG) (D0:(ds=[]/\mG=[])\/∀a b,¬H f.fn a b):kV P S H p {f with todo:=l,defers:=ds} {f' with todo:=l',defers:=mG}:=
 ⟨h.fn,h.MC,h.tmps,hl,hd,h.mode,h.kind,h.kJ,h.round,h.x9,D0,h.wide⟩
theorem DL.append {l l' m m':List Deferred} (h:DL p l l') (k:DL p m m'):DL p (l++m) (l'++m'):=by
 induction h with
 |nil=>exact k
 |cons g _ ih=>exact .cons g ih
end
section
variable {P:Program} {F:Array Func} {S:Nat->Bool} {H:FuncId->Code->Code->Prop} {N:Nat} {p:Pi} {w w':World} {b:Frame} {bs:List Frame} {aW:List Frame}
theorem ey (main:Bool) (h:f.todo=[]) (cs:List Frame) (w:World):stepG.exec P main true f cs none w=gQ P main f cs none w:=by
 obtain⟨fn,tmps,todo,ds,mode,kind,ro⟩:=f;simp only at h;subst h;cases ro<;>rfl
theorem eA (main:Bool) (h:f.todo=.code .ret::k) (cs:List Frame) (w:World):stepG.exec P main true f cs none w=gQ P main f cs (some .ret) w:=by
 obtain⟨fn,tmps,todo,ds,mode,kind,ro⟩:=f;simp only at h;subst h;cases ro<;>rfl
theorem dV (main:Bool) (h:f.todo=.code (.exit id)::k) (cs:List Frame) (w:World):
 stepG.exec P main true f cs none w=match exitTo id k with|none=>gQ P main f cs (some (.exit id)) w|some t=>.go {frame:={f with todo:=t},callers:=cs,status:=.running,dying:=none} w:=by
 obtain⟨fn,tmps,todo,ds,mode,kind,ro⟩:=f;simp only at h;subst h;cases ro<;>(unfold stepG.exec;dsimp only;cases exitTo id k<;>rfl)
theorem dW (main:Bool) (h:f.todo=.code (.goto id)::k) (cs:List Frame) (w:World):
 stepG.exec P main true f cs none w=match gotoIn id k with|none=>gQ P main f cs (some (.goto id)) w|some t=>.go {frame:={f with todo:=t},callers:=cs,status:=.running,dying:=none} w:=by
 obtain⟨fn,tmps,todo,ds,mode,kind,ro⟩:=f;simp only at h;subst h;cases ro<;>(unfold stepG.exec;dsimp only;cases gotoIn id k<;>rfl)
theorem dC.exec (hc:Closed P F S H) (hw:WR P S (KS P S) N p w w') (hg:iz P S p) {top:List Frame} (hf:FL P S H p (f::top) (f'::dE)) (Yk:∀c c' k k',f.todo=.code c::k->f'.todo=.code c'::k'->¬H f.fn c c') (kL:f'.mode=.run->¬pv S f') (qG:f'.mode=.run) (main main':Bool) (hb:Of P S main' aW)
 (hm:kK m w w') (hd:(gw (stepG.exec (ae P F) main' true f' (dE++aW) none w')).drawn<=w'.drawn+m):
 dC P S H N p w w' b bs aW (stepG.exec P main true f (top++b::bs) none w) (stepG.exec (ae P F) main' true f' (dE++aW) none w'):=by
 have fT:=hf.head
 have xH:∀{l l':List Item},TL P S (H f.fn) p l l'->dC P S H N p w w' b bs aW (.go {frame:={f with todo:=l},callers:=top++b::bs,status:=.running,dying:=none} w) (.go {frame:={f' with todo:=l'},callers:=dE++aW,status:=.running,dying:=none} w'):=
  fun h=>dC.go hw (hf.top (fT.AB h) ⟨rfl,rfl⟩)
 have ht:=fT.todo;have bp:=fT.eval hg;generalize h1:f.todo=t at ht;generalize h2:f'.todo=t' at ht;cases ht with
 |nil=>
  rw[ey main' h2]at hd;rw[ey main h1,ey main' h2];exact dC.leave hw hf main main' hb none (fun c h=>by cases h) hm hd
 | @cons i i' k k' hi ht=>
   cases hi with
   | @code c c' ME=>
     cases ME with
     |hole hh=>exact absurd hh (Yk _ _ _ _ h1 h2)
     |seq ha hb=>unfold stepG.exec;simp only[h1,h2];exact xH (.cons (.code ha) (.cons (.code hb) ht))
     |block id ha=>unfold stepG.exec;simp only[h1,h2];exact xH (.cons (.code ha) (.cons (.inBlock id) ht))
     |loop ha=>unfold stepG.exec;simp only[h1,h2];exact xH (.cons (.code ha) (.cons (.inLoop ha) ht))
     | @cond x a a' c c' hx ha hb=>
       have hx:=bp.at hx;unfold stepG.exec;simp only[h1,h2];revert hx;generalize f.eval x=v;generalize f'.eval x=v';intro hx;cases hx<;>first|exact dC.ended .. |skip
       rename_i bo;refine xH (.cons (.code ?_) ht);cases bo
       .exact hb
       .exact ha
     |same fU FQ=>
      cases c with
      |ret=>
       rw[eA main' h2]at hd;rw[eA main h1,eA main' h2];exact dC.leave hw hf main main' hb (some .ret) (fun c h=>by cases h;rfl) hm hd
      |exit id=>
       rw[dV main' h2]at hd;rw[dV main h1,dV main' h2];rcases AC id ht with⟨e1,e2⟩|⟨j,j',e1,e2,hj⟩
       .rw[e2]at hd;rw[e1,e2];exact dC.leave hw hf main main' hb (some (.exit id)) (fun c h=>by cases h;rfl) hm hd
       .rw[e1,e2];exact xH hj
      |goto id=>
       rw[dW main' h2]at hd;rw[dW main h1,dW main' h2];rcases AD id ht with⟨e1,e2⟩|⟨j,j',e1,e2,hj⟩
       .rw[e2]at hd;rw[e1,e2];exact dC.leave hw hf main main' hb (some (.goto id)) (fun c h=>by cases h;rfl) hm hd
       .rw[e1,e2];exact xH hj
      |skip=>
       unfold stepG.exec;simp only[h1,h2];exact xH ht
      |label l=>
       unfold stepG.exec;simp only[h1,h2];exact xH ht
      |seq a c=>
       simp only[codeOk,dg,Bool.and_eq_true]at fU FQ;unfold stepG.exec;simp only[h1,h2];exact xH (.cons (.code (.same fU.1 (FQ.imp And.left fun x=>x))) (.cons (.code (.same fU.2 (FQ.imp And.right fun x=>x))) ht))
      |cond x a c=>
       simp only[codeOk,dg,Bool.and_eq_true]at fU FQ;have hx:=bp.at fU.1.1;unfold stepG.exec;simp only[h1,h2];revert hx;generalize f.eval x=v;generalize f'.eval x=v';intro hx;cases hx<;>first|exact dC.ended .. |skip
       rename_i bo;refine xH (.cons (.code ?_) ht);cases bo
       .exact .same fU.2 (FQ.imp And.right fun x=>x)
       .exact .same fU.1.2 (FQ.imp And.left fun x=>x)
      |block id c=>
       unfold stepG.exec;simp only[h1,h2];exact xH (.cons (.code (.same fU FQ)) (.cons (.inBlock id) ht))
      |loop c=>
       unfold stepG.exec;simp only[h1,h2];exact xH (.cons (.code (.same fU FQ)) (.cons (.inLoop (.same fU FQ)) ht))
      |scope c=>
       unfold stepG.exec;simp only[h1,h2];exact xH (.cons (.code (.same fU FQ)) (.cons (.inScope fU FQ) ht))
      |refuse why=>unfold stepG.exec;simp only[h1,h2];exact dC.ended ..
      |region id ops draw=>
       have pu:∀o∈ops,(lx P S o.op||fF S o.op)=true:=fun o ho=>(Array.all_eq_true_iff_forall_mem.1 fU) o ho;unfold stepG.exec at hd⊢;simp only[h1,h2]at hd⊢;cases draw with
       |false=>exact xH (.cons (.inRegion _ pu) ht)
       |true=>
        simp only[Bool.not_true,Bool.false_eq_true,if_false,choose,Sem.run,Question.forced,Question.cut]at hd⊢
        have J4:0<m:=by
         simp only[gw]at hd;omega
        have ht0:=hm 0 J4 (.order f'.fn id);simp only[Nat.add_zero]at ht0;have ht1:w.tape w.drawn (.order f.fn id)=w'.tape w'.drawn (.order f'.fn id):=by rw[fT.fn];exact ht0
        rw[ht1];have lq:WR P S (KS P S) N p {w with drawn:=w.drawn+1} {w' with drawn:=w'.drawn+1}:=⟨hw.inj,hw.blk,hw.low,hw.fix,hw.fA,hw.jD⟩
        have Ct:cP P S (KS P S) N p w w' 0 1 {w with drawn:=w.drawn+1} {w' with drawn:=w'.drawn+1}:=
         ⟨by rw[bO];exact lq,rfl,rfl,rfl,rfl,rfl,rfl,rfl,rfl,fun _ _ _=>rfl⟩
        refine .inr (.inr ⟨0,1,_,_,#[],#[],Ct,by simp,.inl ⟨_,_,top,dE,?_,rfl,rfl⟩⟩);rw[bO];exact hf.top (fT.AB (.cons (.inRegion _ pu) ht)) ⟨rfl,rfl⟩
      |rangeFunc x ps a c=>
       simp only[codeOk,Bool.and_eq_true]at fU;unfold stepG.exec at hd⊢;simp only[h1,h2]at hd⊢;rw[jJ]at hd;have kL:∀a b,¬H f.fn a b:=FQ.resolve_left (by simp[dg]);have hz:KS P S (.label (100000+f.fn)):=Ke ((hc.x9 f.fn fT.MC).1 kL)
       refine dC.run (SR.enterLoop fT.fn fT.MC hz fT.tmps ps fU.1.2 fU.2 fT.round) hw hm (ev:=fun r es=>seen P f.fn es) (Od:=fun r es=>seen (ae P F) f'.fn es) (fun r es e he=>mem_seen he)
        (k:=fun r=>match r with
          |.ok (l,mark) w=>stepG.apply P true {f with todo:=.inRangeFunc l::k,defers:=mark++f.defers} (top++b::bs) none
             (do let d<-resolve (Frame.eval {f with todo:=.inRangeFunc l::k,defers:=mark++f.defers}) {callee:=.value x,args:=#[.const (.func (.yield l) #[] #[])],argTypes:=#[]} 0;invoke d.target d.args) w
          |.halt _ w=>.ended (.stuck "range over a function: no such loop" (f.pos P)) w)
        (k':=fun r=>match r with
          |.ok (l,mark) w=>stepG.apply (ae P F) true {f' with todo:=.inRangeFunc l::k',defers:=mark++f'.defers} (dE++aW) none
             (do let d<-resolve (Frame.eval {f' with todo:=.inRangeFunc l::k',defers:=mark++f'.defers}) {callee:=.value x,args:=#[.const (.func (.yield l) #[] #[])],argTypes:=#[]} 0;invoke d.target d.args) w
          |.halt _ w=>.ended (.stuck "range over a function: no such loop" (f'.pos (ae P F))) w)
        ?_ ?_ ?_ ?_ ?_
       .exact hd
       .intro r;cases r with
        |ok x w1=>exact Nat.le_trans (mZ (ae P F) _ w1 #[]) (qh ..)
        |halt=>exact Nat.le_refl _
       .intro x w1 _;exact⟨_,_,_,rfl⟩
       .intro cc n w1 fW y y' qF hy Ct D6;obtain⟨l,mark⟩:=y;obtain⟨l',rx⟩:=y';have hle:=fB p w.heap.size w'.heap.size cc;have Sq:=(fT.mono hle).mk' (.cons (.nP hy.1 kL) (ht.mono hle)) (hy.2.append (fT.defers.mono hle)) (.inr kL);refine dC.apply hc qF.rel ((hf.mono hle).top Sq ⟨rfl,rfl⟩) Ct ?_ D6;refine SR.gF hc.ng ?_ ?_
        .exact(Sq.eval (hg.mono hle)).at fU.1.1
        .have:=AR.one (S:=S) (VR.yield (S:=S) hy.1);simpa [Frame.eval]using this
       .intro cc n w1 fW v v' qF hv;exact dC.ended ..
   | @inBlock id=>unfold stepG.exec;simp only[h1,h2];exact xH ht
   | @inScope c fU _=>unfold stepG.exec;simp only[h1,h2];exact xH ht
   | @inLoop c c' ME=>unfold stepG.exec;simp only[h1,h2];exact xH (.cons (.code ME) (.cons (.inLoop ME) ht))
   | @nP l l' hl _=>unfold stepG.exec;simp only[h1,h2];exact dC.ended ..
   | @begin=>
     unfold stepG.exec at hd⊢;simp only[h1,h2]at hd⊢;refine dC.apply hc hw hf hm ?_ hd;rcases Gf fT.round with⟨e1,e2⟩|⟨l,l',e1,e2,hl⟩
     .rw[e1,e2];exact(SR.stuck (α:=Unit) (β:=Unit) (Q:=QE Unit)).ah fun q _ hq=>SR.pure .skip
     .rw[e1,e2];exact(SR.beginRound hl).ah fun q _ hq=>SR.pure .skip
   | @jI l l' hl kL=>
     unfold stepG.exec at hd⊢;simp only[h1,h2]at hd⊢;rw[jJ]at hd
     refine dC.run (SR.endLoop hl) hw hm (ev:=fun r es=>seen P f.fn es) (Od:=fun r es=>seen (ae P F) f'.fn es) (fun r es e he=>mem_seen he)
      (k:=fun r=>match r with
        |.ok jump w=>.go {frame:={f with todo:=(jump.map Item.code).toList++k},callers:=top++b::bs,status:=.running,dying:=none} w
        |.halt (.panic v) w=>.go {frame:=f.raise [{v,recovered:=false}],callers:=top++b::bs,status:=.running,dying:=none} w
        |.halt _ w=>.ended (.stuck "range over a function: no such loop" (f.pos P)) w)
      (k':=fun r=>match r with
        |.ok jump w=>.go {frame:={f' with todo:=(jump.map Item.code).toList++k'},callers:=dE++aW,status:=.running,dying:=none} w
        |.halt (.panic v) w=>.go {frame:=f'.raise [{v,recovered:=false}],callers:=dE++aW,status:=.running,dying:=none} w
        |.halt _ w=>.ended (.stuck "range over a function: no such loop" (f'.pos (ae P F))) w)
      hd ?_ ?_ ?_ ?_
     .intro r;cases r with
      |ok x w1=>exact Nat.le_refl _
      |halt x w1=>cases x<;>exact Nat.le_refl _
     .intro x w1 hx;cases x<;>first|exact⟨_,_,_,rfl⟩|exact absurd hx id
     .intro cc n w1 fW y y' qF hy Ct D6;have hle:=fB p w.heap.size w'.heap.size cc;obtain⟨rfl,hy⟩:=hy;refine dC.go qF.rel ((hf.mono hle).top ((fT.mono hle).AB ?_) ⟨rfl,rfl⟩);cases y with
      |none=>exact ht.mono hle
      |some c=>exact .cons (.code (.same (hy c rfl) (.inr kL))) (ht.mono hle)
     .intro cc n w1 fW v v' qF hv;have hle:=fB p w.heap.size w'.heap.size cc;exact dC.go qF.rel ((hf.mono hle).top ((fT.mono hle).raise (.cons false false hv .nil)) (iX f _))
   | @inRegion ops is pu=>
     cases is with
     |nil=>unfold stepG.exec;simp only[h1,h2];exact xH ht
     |cons i is=>
      unfold stepG.exec at hd⊢;simp only[h1,h2]at hd⊢;have hy:∀j,yielded ops f'.tmps j=yielded ops f.tmps j:=fun j=>(qg ops fT.tmps j).symm;have hyy:(yielded ops f'.tmps)=(yielded ops f.tmps):=funext hy;rw[hyy]at hd⊢;split at hd
      .rename_i lA;rw[if_pos lA,if_pos lA];have Cx:f.oper?=ops[i]?:=by unfold Frame.oper?;rw[h1]
       have Cy:f'.oper?=ops[i]?:=by unfold Frame.oper?;rw[h2]
       unfold stepG.oper at hd⊢;rw[Cx,Cy];rw[Cy]at hd;cases ho:ops[i]? with
       |none=>exact dC.ended ..
       |some o=>
        rw[ho]at hd
        have Og:lx P S o.op=true:=by
         have h0:=pu o (Array.mem_of_getElem? ho);rw[Bool.or_eq_true]at h0;refine h0.resolve_right fun h3=>kL qG ⟨qG,o,ops,i,is,_,h2,ho,h3,?_⟩;rw[hyy];rw[ho]at lA;simpa using lA
        have D0:∀c,o.op≠ .defer c:=by
         intro c FS;rw[FS]at Og;simp[lx]at Og
        have key:∀(P:Program) (fr:Frame) (cs:List Frame) (w:World),(match fr.roundOf,o.op with
         |some l,.defer c=>stepG.apply P true fr cs none (do Instr.deferInRound l (<-resolve fr.eval c o.type);pure .skip) w
         |_,_=>stepG.apply P true fr cs none (execOp fr.eval o) w)=stepG.apply P true fr cs none (execOp fr.eval o) w:=by
         intro P fr cs w;split
         .rename_i hx;exact absurd hx (D0 _)
         .rfl
        have Yl:(gw (stepG.apply (ae P F) true f' (dE++aW) none (execOp f'.eval o) w')).drawn<=w'.drawn+m:=by
         rw[<-key (ae P F) f' (dE++aW) w'];exact hd
        have e1:=key P f (top++b::bs) w;have e2:=key (ae P F) f' (dE++aW) w';refine Eq.mpr (congr (congrArg (dC P S H N p w w' b bs aW) e1) e2) ?_;exact dC.apply hc hw hf hm (SR.execOp hc.gZ hc.dK hc.ng bp o Og) Yl
      .rename_i lA;rw[if_neg lA,if_neg lA];exact dC.go hw (hf.top (fT.finish VR.undef) (dL f _))
end
section
variable {P:Program} {F:Array Func} {S:Nat->Bool} {H:FuncId->Code->Code->Prop} {N:Nat} {p:Pi} {w w':World} {b:Frame} {bs:List Frame} {aW:List Frame}
theorem nR {H:Code->Code->Prop} (h:TL P S H p l l'):∀d x r s k,l≠ .call d x r s::k/\l'≠ .call d x r s::k:=by
 intro d x r s k;cases h with
 |nil=>exact⟨by simp,by simp⟩
 |cons hi ht=>cases hi<;>exact⟨by simp,by simp⟩
theorem nh (h:∀d x r s k,f.todo≠ .call d x r s::k):f.catches P=false:=by
 unfold Frame.catches;split
 .rename_i hh;exact absurd hh (h _ _ _ _ _)
 .rfl
theorem dC.unwind (hc:Closed P F S H) (hw:WR P S (KS P S) N p w w') {top:List Frame} (hf:FL P S H p (f::top) (f'::dE)) (main main':Bool) (hb:Of P S main' aW)
 (hm:kK m w w') (hd:(gw (Go.unwind (ae P F) main' f' (dE++aW) none w')).drawn<=w'.drawn+m):
 dC P S H N p w w' b bs aW (Go.unwind P main f (top++b::bs) none w) (Go.unwind (ae P F) main' f' (dE++aW) none w'):=by
 have fT:=hf.head;have FT:=fT.defers;generalize h1:f.defers=t at FT;generalize h2:f'.defers=t' at FT;unfold Go.unwind at hd⊢;rw[h1,h2];rw[h2]at hd;cases FT with
 | @cons r r' l l' hr hl=>
   simp only[jJ]at hd⊢
   refine dC.run (SR.takeDeferred hr) hw hm (ev:=fun r es=>seen P f.fn es) (Od:=fun r es=>seen (ae P F) f'.fn es) (fun r es e he=>mem_seen he)
    (k:=fun r=>match r with|.ok calls w=>.go {frame:={f with defers:=calls++l},callers:=top++b::bs,status:=.running,dying:=none} w|.halt _ w=>.ended (.stuck "the deferred calls of a range-over-func loop have been taken" (f.pos P)) w)
    (k':=fun r=>match r with|.ok calls w=>.go {frame:={f' with defers:=calls++l'},callers:=dE++aW,status:=.running,dying:=none} w|.halt _ w=>.ended (.stuck "the deferred calls of a range-over-func loop have been taken" (f'.pos (ae P F))) w)
    hd ?_ ?_ ?_ ?_
   .intro r;cases r<;>exact Nat.le_refl _
   .intro x w1 _;exact⟨_,_,_,rfl⟩
   .intro c n w1 fW y y' qF hy _ _;obtain⟨rfl,rfl⟩:=hy;have hle:=fB p w.heap.size w'.heap.size c;exact dC.go qF.rel ((hf.mono hle).top ((fT.mono hle).mk' (fT.todo.mono hle) (hl.mono hle) (.inr (fT.nd.resolve_left fun x=>by rw[h1]at x;cases x.1))) ⟨rfl,rfl⟩)
   .intro c n w1 fW v v' qF hv;exact dC.ended ..
 |nil=>
  simp only at hd⊢;have qG:=fT.mode;generalize g1:f.mode=o at qG;generalize g2:f'.mode=o' at qG;rw[g2]at hd;cases qG with
  |run=>exact dC.ended ..
  | @panicking l l' hl=>
    simp only;have n1:=nh (P:=P) (f:=f) fun d x r s k=>(nR fT.todo d x r s k).1;have n2:=nh (P:=ae P F) (f:=f') fun d x r s k=>(nR fT.todo d x r s k).2;simp only[n1,n2,Bool.false_eq_true,if_false];cases hf with
    |one h r=>exact dC.raised hl ..
    |cons h t=>
     cases t with
     |one h r=>exact dC.go hw (.one (h.raise hl) ⟨(iX _ _).1.trans r.1,by rw[(iX _ _).2];exact r.2⟩)
     |cons h t=>exact dC.go hw (.cons (h.raise hl) t)
  |returning=>
   simp only at hd⊢;rw[<-fT.fn]at hd⊢;rcases hc.body f.fn fT.MC with⟨e1,e2⟩|⟨fn,iS,_,_,e1,e2,_,_,_,_,_,_,e3⟩
   .rw[e1,e2];exact dC.doReturn hw hf main main' hb (fT.tmps.getD 0 VR.undef)
   .rw[e1,e2];rw[e2]at hd;simp only[jJ]at hd⊢
    refine dC.run (SR.results e3 fT.tmps) hw hm (ev:=fun r es=>seen P f.fn es) (Od:=fun r es=>seen (ae P F) f.fn es) (fun r es e he=>mem_seen he)
     (k:=fun r=>match r with|.ok v w=>Go.doReturn P main f (top++b::bs) none v w|.halt (.stuck s) w=>.ended (.stuck s (f.pos P)) w|.halt _ w=>.ended (.stuck "return: the result variables cannot be read" (f.pos P)) w)
     (k':=fun r=>match r with|.ok v w=>Go.doReturn (ae P F) main' f' (dE++aW) none v w|.halt (.stuck s) w=>.ended (.stuck s (f'.pos (ae P F))) w|.halt _ w=>.ended (.stuck "return: the result variables cannot be read" (f'.pos (ae P F))) w)
     hd ?_ ?_ ?_ ?_
    .intro r;cases r with
     |ok v w=>simp only;rw[lz _ _ _ fT.kJ];exact Nat.le_refl _
     |halt x=>cases x<;>exact Nat.le_refl _
    .intro x w1 hx;cases x<;>exact⟨_,_,_,rfl⟩
    .intro c n w1 fW x y qF hv _ _;exact dC.doReturn qF.rel (hf.mono (fB _ _ _ _)) main main' hb hv
    .intro c n w1 fW v v' qF hv;exact dC.ended ..
theorem dC.step (hc:Closed P F S H) (hw:WR P S (KS P S) N p w w') (hg:iz P S p) {top:List Frame} (hf:FL P S H p (f::top) (f'::dE)) (Yk:∀c c' k k',f.mode=.run->f.todo=.code c::k->f'.todo=.code c'::k'->¬H f.fn c c') (kL:¬pv S f') (main main':Bool) (hb:Of P S main' aW)
 (hm:kK m w w') (hd:(gw (stepG (ae P F) main' {frame:=f',callers:=dE++aW,status:=.running,dying:=none} w')).drawn<=w'.drawn+m):
 dC P S H N p w w' b bs aW (stepG P main {frame:=f,callers:=top++b::bs,status:=.running,dying:=none} w)
  (stepG (ae P F) main' {frame:=f',callers:=dE++aW,status:=.running,dying:=none} w'):=by
 have qG:=hf.head.mode
 have bi:∀(P:Program) (main:Bool) (f:Frame) (cs:List Frame) (w:World),f.mode=.run->stepG P main {frame:=f,callers:=cs,status:=.running,dying:=none} w=stepG.exec P main true f cs none w:=by
  intro P main f cs w h;unfold stepG;simp only[h]
 have Ym:∀(P:Program) (main:Bool) (f:Frame) (cs:List Frame) (w:World),f.mode≠ .run->stepG P main {frame:=f,callers:=cs,status:=.running,dying:=none} w=Go.unwind P main f cs none w:=by
  intro P main f cs w h;unfold stepG;simp only
 by_cases h:f.mode=.run
 .have h':f'.mode=.run:=by
   rw[h]at qG;generalize f'.mode=o at qG;cases qG;rfl
  rw[bi _ _ _ _ _ h']at hd;rw[bi _ _ _ _ _ h,bi _ _ _ _ _ h'];exact dC.exec hc hw hg hf (fun c c' k k'=>Yk c c' k k' h) (fun _=>kL) h' main main' hb hm hd
 .have h':f'.mode≠ .run:=by
   intro e;rw[e]at qG;generalize hx:f.mode=o at qG;cases qG;exact h hx
  rw[Ym _ _ _ _ _ h']at hd;rw[Ym _ _ _ _ _ h,Ym _ _ _ _ _ h'];exact dC.unwind hc hw hf main main' hb hm hd
end
def new (w w1:World):Nat->Prop:=fun r=>w.heap.size<=r/\r<w1.heap.size
def aH (kn:Nat->Prop) (w w1:World):Nat->Prop:=fun r=>kn r\/new w w1 r
structure Env (kn:Nat->Prop) (w w2:World):Prop where
 size:w.heap.size<=w2.heap.size
 same:∀r,kn r->w2.heap[r]?=w.heap[r]?
 os:w2.os=w.os
 out:w2.output=w.output
theorem Env.refl (kn:Nat->Prop) (w:World):Env kn w w:=⟨Nat.le_refl _,fun _ _=>rfl,rfl,rfl⟩
theorem Env.trans {w:World} (h:Env kn w w1) (k:Env kn w1 w2):Env kn w w2:=
 ⟨Nat.le_trans h.1 k.1,fun r hr=>(k.2 r hr).trans (h.2 r hr),k.os.trans h.os,k.out.trans h.out⟩
def CA (kn own:Nat->Prop) (e:Event):Prop:=
 e=noRoomEvent\/(e.sync=false/\∃r,kn r/\((∃a:Addr,e.loc=.cell a/\a.block=r)\/e.loc=.obj r)/\(e.write=true->own r))
structure Fair (kn own:Nat->Prop) (w w1:World) (es:Array Event):Prop where
 size:w.heap.size<=w1.heap.size
 others:∀r,r<w.heap.size->¬own r->w1.heap[r]?=w.heap[r]?
 os:w1.os=w.os
 out:w1.output=w.output
 tape:w1.tape=w.tape
 drawn:w.drawn<=w1.drawn
 ev:∀e∈es,CA (aH kn w w1) (aH own w w1) e
abbrev il (f:Frame) (cs:List Frame):Goroutine:={frame:=f,callers:=cs,status:=.running,dying:=none}
abbrev nS:=(Nat->Prop)->(Nat->Prop)->Value->World->Prop
abbrev kW:=(Nat->Prop)->(Nat->Prop)->Frame->World->Prop
abbrev dM:=(Nat->Prop)->(Nat->Prop)->Frame->World->Value->World->(Nat->Prop)->(Nat->Prop)->Prop
abbrev Q6:=(Nat->Prop)->(Nat->Prop)->Frame->List Frame->World->Prop
def Body (Q:Program) (main:Bool) (base:List Frame) (Fin:nS) (HA:kW) (HP:dM) (I:Q6):Q6:=fun kn own f top w=>
 ∀w2,Env kn w w2->
  (∃w3 es f2 nU,stepG Q main (il f (top++base)) w2=.go (il f2 (nU++base)) w3 es/\Fair kn own w2 w3 es/\I (aH kn w2 w3) (aH own w2 w3) f2 nU w3)\/
  (∃w3 es v b bs,base=b::bs/\stepG Q main (il f (top++base)) w2=.go (il (b.finish v) bs) w3 es/\Fair kn own w2 w3 es/\Fin (aH kn w2 w3) (aH own w2 w3) v w3)\/
  (∃w3 es v,base=[]/\stepG Q main (il f (top++base)) w2=.ended (.done v) w3 es/\Fair kn own w2 w3 es/\Fin (aH kn w2 w3) (aH own w2 w3) v w3)\/
  (HA kn own f w2/\∃c rest,top=c::rest/\∀v w3 eG bI,HP kn own f w2 v w3 eG bI->I eG bI (c.finish v) rest w3)
def CT (Q:Program) (main:Bool) (base:List Frame) (Fin:nS) (HA:kW) (HP:dM):Q6:=fun kn own f top w=>
 ∀I:Q6,(∀kn own f top w,Body Q main base Fin HA HP I kn own f top w->I kn own f top w)->I kn own f top w
section
variable {Q:Program} {main:Bool} {base:List Frame} {Fin:nS} {HA:kW} {HP:dM}
theorem Body.mono {I J:Q6} (h:∀kn own f top w,I kn own f top w->J kn own f top w) {top:List Frame} {w:World} (x:Body Q main base Fin HA HP I kn own f top w):Body Q main base Fin HA HP J kn own f top w:=by
 intro w2 he;rcases x w2 he with⟨w3,es,f2,nU,h1,h2,h3⟩|x|x|⟨h1,c,rest,hc,h2⟩
 .exact .inl ⟨w3,es,f2,nU,h1,h2,h _ _ _ _ _ h3⟩
 .exact .inr (.inl x)
 .exact .inr (.inr (.inl x))
 .exact .inr (.inr (.inr ⟨h1,c,rest,hc,fun v w3 eG bI hp=>h _ _ _ _ _ (h2 v w3 eG bI hp)⟩))
theorem CT.mk {kn own:Nat->Prop} {f:Frame} {top:List Frame} {w:World} (h:Body Q main base Fin HA HP (CT Q main base Fin HA HP) kn own f top w):CT Q main base Fin HA HP kn own f top w:=
 fun I hI=>hI _ _ _ _ _ (h.mono fun _ _ _ _ _ x=>x I hI)
theorem CT.ind {I:Q6} (hI:∀kn own f top w,Body Q main base Fin HA HP (fun kn own f top w=>I kn own f top w/\CT Q main base Fin HA HP kn own f top w) kn own f top w->I kn own f top w)
 {top:List Frame} {w:World} (h:CT Q main base Fin HA HP kn own f top w):I kn own f top w:=
 (h (fun kn own f top w=>I kn own f top w/\CT Q main base Fin HA HP kn own f top w) fun _ _ _ _ _ x=>⟨hI _ _ _ _ _ x,CT.mk (x.mono fun _ _ _ _ _ y=>y.2)⟩).1
end
def jK (p:Pi):Nat->Prop:=fun r'=>∃r,p r r'
def cz (N:Nat) (p:Pi):Nat->Prop:=fun r'=>∃r,p r r'/\N<=r
theorem Kf (p:Pi) (L C c:Nat):jK (ext p L C c)=fun r'=>jK p r'\/(C<=r'/\r'<C+c):=by
 funext r';apply propext;constructor
 .rintro⟨r,h|⟨k,hk,h1,h2⟩⟩
  .exact .inl ⟨r,h⟩
  .exact .inr ⟨by omega,by omega⟩
 .rintro(⟨r,h⟩|⟨h1,h2⟩)
  .exact⟨r,.inl h⟩
  .exact⟨L+(r'-C),.inr ⟨r'-C,by omega,rfl,by omega⟩⟩
theorem D7 {N:Nat} (p:Pi) {L:Nat} (hN:N<=L) (C c:Nat):cz N (ext p L C c)=fun r'=>cz N p r'\/(C<=r'/\r'<C+c):=by
 funext r';apply propext;constructor
 .rintro⟨r,h|⟨k,hk,h1,h2⟩,hr⟩
  .exact .inl ⟨r,h,hr⟩
  .exact .inr ⟨by omega,by omega⟩
 .rintro(⟨r,h,hr⟩|⟨h1,h2⟩)
  .exact⟨r,.inl h,hr⟩
  .exact⟨L+(r'-C),.inr ⟨r'-C,by omega,rfl,by omega⟩,by omega⟩
section
variable {P:Program} {S:Nat->Bool} {N:Nat} {p:Pi}
theorem WR.env {w:World} (h:WR P S (KS P S) N p lw w) (he:Env (jK p) w w2):WR P S (KS P S) N p lw w2:=
 ⟨h.inj,fun r r' hr=>by
   obtain⟨o,o',h1,h2,h3⟩:=h.blk r r' hr;exact⟨o,o',h1,(he.2 r' ⟨r,hr⟩).trans h2,h3⟩,h.low,h.fix,h.fA,Nat.le_trans h.jD he.1⟩
theorem WR.tape {w:World} (h:WR P S (KS P S) N p lw w) (T:Nat->Question->Nat) (d:Nat):WR P S (KS P S) N p {lw with tape:=T,drawn:=d} w:=
 ⟨h.inj,h.blk,h.low,h.fix,h.fA,h.jD⟩
theorem cP.fair {w WJ:World} {c:Nat} (hw:WR P S (KS P S) N p lw w) (h:cP P S (KS P S) N p lw w c n WJ w1) {es:Array Event} (he:∀e∈es,JE N (ext p lw.heap.size w.heap.size c) e):
 Fair (jK p) (cz N p) w w1 es/\jK (ext p lw.heap.size w.heap.size c)=aH (jK p) w w1/\cz N (ext p lw.heap.size w.heap.size c)=aH (cz N p) w w1:=by
 have e1:jK (ext p lw.heap.size w.heap.size c)=aH (jK p) w w1:=by
  rw[Kf];unfold aH new;rw[h.lj]
 have e2:cz N (ext p lw.heap.size w.heap.size c)=aH (cz N p) w w1:=by
  rw[D7 p hw.low];unfold aH new;rw[h.lj]
 refine⟨⟨by rw[h.lj];omega,fun r hr hn=>h.others r hr fun s hs=>?_,h.Ye,h.NZ,h.Cs,by rw[h.lp];omega,fun e hx=>?_⟩,e1,e2⟩
 .rcases Nat.lt_or_ge s N with aA|xU
  .exact aA
  .exact absurd ⟨s,hs,xU⟩ hn
 .rw[<-e1,<-e2];rcases he e hx with h0|⟨h1,r,r',h2,h3,h4⟩
  .exact .inl h0
  .exact .inr ⟨h1,r',⟨r,h2⟩,h3,fun Gg=>⟨r,h2,h4 Gg⟩⟩
end
def Base (P:Program):Frame:={fn:=P.funcs.size,tmps:=#[],todo:=[.extern "" #[],.code (.refuse "")],defers:=[⟨.nil,#[]⟩],mode:=.run,kind:=.normal}
theorem dH (P:Program) (v:Value):(Base P).finish v={fn:=P.funcs.size,tmps:=#[v],todo:=[.code (.refuse "")],defers:=[⟨.nil,#[]⟩],mode:=.run,kind:=.normal}:=rfl
theorem fY (P:Program) (v:Value) (w:World):∃o w1,step P (lone ((Base P).finish v) [] w)=.ended o w1:=⟨_,_,step_lone_ended (by rw[dH];rfl)⟩
theorem eZ (P:Program) (ch:List PanicEntry) (w:World):∃o w1,step P (lone ((Base P).raise ch) [] w)=.ended o w1:=⟨_,_,step_lone_ended (by rfl)⟩
theorem eR {cs ds:List Frame} {w:World} (h:lone f cs w=lone g ds v):f=g/\cs=ds/\w=v:=by
 have h1:(lone f cs w).gs[0]! =(lone g ds v).gs[0]!:=by rw[h]
 have h2:(lone f cs w).world=(lone g ds v).world:=by rw[h]
 have h3:(il f cs)=(il g ds):=h1;simp only[Goroutine.mk.injEq]at h3;exact⟨h3.1,h3.2.1,h2⟩
def Alike (w w':World):Prop:=∀r:Nat,w'.heap[r]?=w.heap[r]? \/((∃d,w.heap[r]?=some (Obj.deferred d))/\∃d,w'.heap[r]?=some (Obj.deferred d))
theorem Alike.refl (w:World):Alike w w:=fun _=>.inl rfl
theorem Alike.trans {a b c:World} (h:Alike a b) (k:Alike b c):Alike a c:=fun r=>by
 rcases k r with k|⟨⟨d,k1⟩,k2⟩
 .rcases h r with h|⟨h1,d,h2⟩
  .exact .inl (k.trans h)
  .exact .inr ⟨h1,d,k.trans h2⟩
 .rcases h r with h|⟨h1,_⟩
  .exact .inr ⟨⟨d,h▸k1⟩,k2⟩
  .exact .inr ⟨h1,k2⟩
theorem ry (P:Program) (n:Nat) (m m1:Machine) (h:runN P n m=.next m1):runN P (n+1) m=step P m1:=by
 rw[runN_add,h];simp only[runN];split<;>simp_all
section
variable {P:Program} {S:Nat->Bool} {H:FuncId->Code->Code->Prop} {N:Nat} {p:Pi}
def FD (P:Program) (S:Nat->Bool) (H:FuncId->Code->Code->Prop) (p:Pi) (g:Frame):Prop:=(∃d,DL p g.defers d)/\∀d x r s k,g.todo≠ .call d x r s::k
theorem FL.fd {l l':List Frame} (h:FL P S H p l l'):∀g∈l,FD P S H p g:=by
 induction h with
 |one h r=>intro g hg;obtain rfl:g=_:=by simpa using hg
           exact⟨⟨_,h.defers⟩,fun d x r s k=>(nR h.todo d x r s k).1⟩
 |cons h t ih=>
  intro g hg;rcases List.mem_cons.1 hg with rfl|hg
  .exact⟨⟨_,h.defers⟩,fun d x r s k=>(nR h.todo d x r s k).1⟩
  .exact ih g hg
theorem vN (g:Frame) (ch:List PanicEntry):(g.raise ch).defers=g.defers/\(g.raise ch).todo=g.todo:=by
 unfold Frame.raise;split<;>exact⟨rfl,rfl⟩
theorem raise_mode (g:Frame) {ch:List PanicEntry} {e:PanicEntry} (h:ch.head?=some e):∃CB,(g.raise ch).mode=.panicking CB/\CB.head?=some e:=by
 unfold Frame.raise;split
 .refine⟨_,rfl,?_⟩;cases ch with
  |nil=>cases h
  |cons x l=>exact h
 .exact⟨_,rfl,h⟩
theorem rz:∀(n:Nat) (h:Frame) (hs:List Frame) (v w2:World) (ch:List PanicEntry) (e0:PanicEntry),h.mode=.panicking ch->ch.head?=some e0->FD P S H p h->(∀g∈hs,FD P S H p g)->
 WR P S (KS P S) N p v w2->∀(fr:Frame) (w1:World),runN P n (lone h (hs++[Base P]) v)=.next (lone fr [Base P] w1)->
 ((∃x,fr.leaving P w1 (.returned x))\/∃CB,fr.leaving P w1 (.panicked CB))->∃CB,fr.mode=.panicking CB/\CB.head?=some e0/\Alike v w1:=by
 intro n;induction n with
 |zero=>
  intro h hs v w2 ch e0 hm he hd FT hw fr w1 hr hl;simp only[runN,Stepped.next.injEq]at hr;obtain⟨rfl,_,rfl⟩:=eR hr;exact⟨ch,hm,he,Alike.refl _⟩
 |succ n ih=>
  intro h hs v w2 ch e0 hm he hd FT hw fr w1 hr hl;obtain⟨⟨d',Yn⟩,D9⟩:=hd
  have cg:stepG P true {frame:=h,callers:=hs++[Base P],status:=.running,dying:=none} v=Go.unwind P true h (hs++[Base P]) none v:=by
   unfold stepG;simp only[hm]
  generalize hdd:h.defers=ds at Yn;cases Yn with
  | @cons r r' l l' Oh WK=>
    obtain⟨o,o',ho,CD,hc⟩:=hw.blk r r' Oh
    have rA:(∃x,(Instr.takeDeferred r).run P v=.halt x v)->False:=by
     rintro⟨x,hx⟩
     have:step P (lone h (hs++[Base P]) v)=.ended _ _:=step_lone_ended (by
      rw[cg];unfold Go.unwind;simp only[hdd,Sem.runT_eq,hx,GStep.bare_after];rfl)
     simp only[runN,this]at hr;cases hr
    have Gh:(∀d,o≠ .deferred (some d))->False:=fun hn=>rA (by
     simp only[Instr.takeDeferred,getObj,bind,Sem.bind,Sem.run,ho];cases o<;>first|exact⟨_,rfl⟩|(rename_i d;cases d<;>first|exact⟨_,rfl⟩|exact absurd rfl (hn _)))
    rcases hc with⟨_,c,c',el,fz,rfl,rfl,_⟩|⟨hN,qC⟩
    .exact(Gh fun d h=>by cases h).elim
    .cases qC with
     |cO=>
      have bi:(Instr.takeDeferred r).run P v=.ok [] {v with heap:=v.heap.setIfInBounds r (.deferred none)}:=by
       simp[Instr.takeDeferred,getObj,setObj,bind,Sem.bind,Sem.run,ho,pure]
      have cq:step P (lone h (hs++[Base P]) v)=.next (lone {h with defers:=[]++l} (hs++[Base P]) {v with heap:=v.heap.setIfInBounds r (.deferred none)}):=step_lone_go (by
       rw[cg];unfold Go.unwind;simp only[hdd,Sem.runT_eq,bi,GStep.bare_after];rfl)
      simp only[runN,cq]at hr;obtain⟨CB,k1,k2,k3⟩:=ih {h with defers:=[]++l} hs _ {w2 with heap:=w2.heap.setIfInBounds r' (.deferred none)} ch e0 hm he ⟨⟨_,WK⟩,D9⟩ FT (hw.setObj Oh .cN hN) fr w1 hr hl;refine⟨CB,k1,k2,Alike.trans (fun s=>?_) k3⟩;by_cases hs:r=s
      .subst hs;have aA:=(Array.getElem?_eq_some_iff.1 ho).1;exact .inr ⟨⟨_,ho⟩,none,by simp[aA]⟩
      .exact .inl (by simp[hs])
     |_=>exact(Gh fun d h=>by cases h).elim
  |nil=>
   have Sr:h.catches P=false:=nh D9;cases hs with
   |nil=>
    exfalso
    have cq:step P (lone h ([]++[Base P]) v)=.next (lone ((Base P).raise ch) [] v):=step_lone_go (by
     rw[cg];unfold Go.unwind;simp only[hdd,hm,Sr,Bool.false_eq_true,if_false];rfl)
    simp only[runN,cq]at hr;obtain⟨o,w5,WM⟩:=eZ P ch v;cases n with
    |zero=>
     simp only[runN,Stepped.next.injEq]at hr;have:=(eR hr).2.1;simp at this
    |succ n=>simp only[runN,WM]at hr;cases hr
   |cons g2 kM=>
    have cq:step P (lone h (g2::kM++[Base P]) v)=.next (lone (g2.raise ch) (kM++[Base P]) v):=step_lone_go (by
     rw[cg];unfold Go.unwind;simp only[hdd,hm,Sr,Bool.false_eq_true,if_false];rfl)
    simp only[runN,cq]at hr;obtain⟨ch3,m1,m2⟩:=raise_mode g2 he;obtain⟨Yl,ht2⟩:=FT g2 (by simp);have Su:=vN g2 ch;exact ih (g2.raise ch) kM v w2 ch3 e0 m1 m2 ⟨by rw[Su.1];exact Yl,by rw[Su.2];exact ht2⟩ (fun g hg=>FT g (by simp[hg])) hw fr w1 hr hl
end
def WN (P:Program) (lf:Frame) (rB:List Frame) (lw:World) (R:Value->World->Prop) (C:Value->World->Prop):Prop:=
 ∀T,∃n fr w1,runN P n (lone lf (rB++[Base P]) {lw with tape:=T})=.next (lone fr [Base P] w1)/\
  ((∃v,fr.leaving P w1 (.returned v)/\R v w1)\/(∃e ch,fr.leaving P w1 (.panicked (e::ch))/\C e.v w1/\∀(S:Nat->Bool) (q:Pi) v',S (P.funcs.size+P.globals.size)=false->¬VR S q e.v v'))
def rC (P:Program) (S:Nat->Bool) (N:Nat) (p:Pi) (R:Value->World->Prop) (kn own:Nat->Prop) (v':Value) (w':World):Prop:=
 ∃q v w1,R v w1/\VR S q v v'/\WR P S (KS P S) N q w1 w'/\Le p q/\kn=jK q/\own=cz N q
def fZ (m:Nat->Nat) (d:Nat):Nat->Nat
 |0=>d
 |k+1=>fZ m d k+m k
theorem pw (m:Nat->Nat) (d:Nat) {k j:Nat} (h:k<=j):fZ m d k<=fZ m d j:=by
 induction h with
 |refl=>exact Nat.le_refl _
 |step _ ih=>simp only[fZ];omega
open Classical in
theorem splice {α:Type} [Inhabited α] (m:Nat->Nat) (a:Nat->Nat->α) (d:Nat):∃T:Nat->α,∀k j,j<m k->T (fZ m d k+j)=a k j:=by
 refine⟨fun i=>if h:∃k,fZ m d k<=i/\i<fZ m d (k+1)then a h.choose (i-fZ m d h.choose)else default,fun k j hj=>?_⟩;have h:∃k',fZ m d k'<=fZ m d k+j/\fZ m d k+j<fZ m d (k'+1):=⟨k,by omega,by simp only[fZ];omega⟩
 simp only[dif_pos h];obtain⟨c,hc,fV⟩:∃c,(fZ m d c<=fZ m d k+j/\fZ m d k+j<fZ m d (c+1))/\h.choose=c:=⟨h.choose,h.choose_spec,rfl⟩
 rw[fV]
 have e:c=k:=by
  rcases Nat.lt_trichotomy c k with aA|heq|yh
  .have:=pw m d (show c+1<=k by omega);omega
  .exact heq
  .have:=pw m d (show k+1<=c by omega);simp only[fZ]at this;omega
 subst e;congr 1;omega
def JH (H:FuncId->Code->Code->Prop) (lf f:Frame):Prop:=lf.mode=.run/\f.mode=.run/\∃c c' k k',lf.todo=.code c::k/\f.todo=.code c'::k'/\H f.fn c c'
def Gi (H:FuncId->Code->Code->Prop) (f:Frame):Prop:=f.mode=.run/\∃c c' k',f.todo=.code c'::k'/\H f.fn c c'
structure rD (P:Program) (S:Nat->Bool) (H:FuncId->Code->Code->Prop) (N:Nat) (HA:kW) (HP:dM) (C:Value->World->Prop)where
 a0:Question->Nat
 m1:Nat
 WO:Value->World->Nat->Question->Nat
 ln:Nat
 q3:Pi->Nat->Frame->World->Value->World->Pi
 val:Frame->Value
 only:∀fn c c' c0,H fn c c'->CR P S (H fn) c0 c'->H fn c0 c'\/∃w,c0=.refuse w
 marked:S (P.funcs.size+P.globals.size)=false
 bare:∀o,fF S o=false
 AF:∀v w w',Alike w w'->C v w'->C v w
 check:∀p lf f v cs,kV P S H p lf f->JH H lf f->(∀q,v.tape v.drawn q=a0 q)->∃n g1 v1 e,runN P n (lone lf cs v)=.next (lone g1 cs v1)/\g1.mode=.panicking [e]/\e.v=val lf/\
  FD P S H p g1/\v1.heap=v.heap
 ha:∀p lf f v w2,kV P S H p lf f->JH H lf f->WR P S (KS P S) N p v w2->C (val lf) v->HA (jK p) (cz N p) f w2
 pass:∀p lf f v w2 lc cs u' w3 eG bI,kV P S H p lf f->JH H lf f->WR P S (KS P S) N p v w2->HP (jK p) (cz N p) f w2 u' w3 eG bI->(∀i,i<m1->∀q,v.tape (v.drawn+i) q=WO u' w3 i q)->
  ∃n u v1,1<=n/\runN P n (lone lf (lc::cs) v)=.next (lone (lc.finish u) cs v1)/\VR S (q3 p v.heap.size f w2 u' w3) u u'/\WR P S (KS P S) N (q3 p v.heap.size f w2 u' w3) v1 w3/\
   Le p (q3 p v.heap.size f w2 u' w3)/\eG=jK (q3 p v.heap.size f w2 u' w3)/\bI=cz N (q3 p v.heap.size f w2 u' w3)/\v1.tape=v.tape/\v1.drawn=v.drawn+m1/\v1.heap.size=v.heap.size+ln
structure Nd where
 p:Pi
 L:Nat
 f:Frame
 top:List Frame
 w:World
section
variable (Q:Program) (S:Nat->Bool) (H:FuncId->Code->Code->Prop) (N:Nat) (main:Bool) (base:List Frame) (Fin:nS) (HA:kW) (HP:dM)
def Nd.ct (x:Nd):Prop:=CT Q main base Fin HA HP (jK x.p) (cz N x.p) x.f x.top x.w
def Nd.step (x:Nd) (w2:World):GStep:=stepG Q main (il x.f (x.top++base)) w2
def Nd.bad (x:Nd) (w2:World):Prop:=
 Env (jK x.p) x.w w2/\
 ¬((∃w3 es f2 nU,x.step Q main base w2=.go (il f2 (nU++base)) w3 es/\Fair (jK x.p) (cz N x.p) w2 w3 es/\CT Q main base Fin HA HP (aH (jK x.p) w2 w3) (aH (cz N x.p) w2 w3) f2 nU w3)\/
  (∃w3 es v b bs,base=b::bs/\x.step Q main base w2=.go (il (b.finish v) bs) w3 es/\Fair (jK x.p) (cz N x.p) w2 w3 es/\Fin (aH (jK x.p) w2 w3) (aH (cz N x.p) w2 w3) v w3)\/
  (∃w3 es v,base=[]/\x.step Q main base w2=.ended (.done v) w3 es/\Fair (jK x.p) (cz N x.p) w2 w3 es/\Fin (aH (jK x.p) w2 w3) (aH (cz N x.p) w2 w3) v w3)\/
  (HA (jK x.p) (cz N x.p) x.f w2/\∃c rest,x.top=c::rest/\∀v w3 eG bI,HP (jK x.p) (cz N x.p) x.f w2 v w3 eG bI->CT Q main base Fin HA HP eG bI (c.finish v) rest w3))
theorem Nd.Oi (x:Nd) (h:¬x.ct Q N main base Fin HA HP):∃w2,x.bad Q N main base Fin HA HP w2:=by
 refine Classical.byContradiction fun hn=>h (CT.mk fun w2 he=>?_);exact Classical.byContradiction fun hx=>hn ⟨w2,he,hx⟩
def Nd.out (x:Nd) (w2:World) (o:Value×World):Prop:=
 ∃c rest eG bI,x.top=c::rest/\HP (jK x.p) (cz N x.p) x.f w2 o.1 o.2 eG bI/\¬CT Q main base Fin HA HP eG bI (c.finish o.1) rest o.2
open Classical in
noncomputable def Nd.pick (x:Nd):World:=if h:∃w2,x.bad Q N main base Fin HA HP w2 then h.choose else x.w
theorem Nd.tZ (x:Nd) (h:¬x.ct Q N main base Fin HA HP):x.bad Q N main base Fin HA HP (x.pick Q N main base Fin HA HP):=by
 have:=x.Oi Q N main base Fin HA HP h;unfold Nd.pick;rw[dif_pos this];exact this.choose_spec
open Classical in
noncomputable def Nd.fe (x:Nd):Value×World:=
 if h:∃o,x.out Q N main base Fin HA HP (x.pick Q N main base Fin HA HP) o then h.choose else(undef,x.w)
theorem Nd.vO (x:Nd) (h:∃o,x.out Q N main base Fin HA HP (x.pick Q N main base Fin HA HP) o):x.out Q N main base Fin HA HP (x.pick Q N main base Fin HA HP) (x.fe Q N main base Fin HA HP):=by
 unfold Nd.fe;rw[dif_pos h];exact h.choose_spec
end
section
variable {P:Program} (Q:Program) {S:Nat->Bool} {H:FuncId->Code->Code->Prop} {N:Nat} (main:Bool) (base:List Frame) (Fin:nS) {HA:kW} {HP:dM} {C:Value->World->Prop} (hl:rD P S H N HA HP C)
open Classical in
noncomputable def Nd.nx (x:Nd):Nd:=
 if Gi H x.f then
  match x.top with
  |c::rest=>⟨hl.q3 x.p x.L x.f (x.pick Q N main base Fin HA HP) (x.fe Q N main base Fin HA HP).1 (x.fe Q N main base Fin HA HP).2,x.L+hl.ln,c.finish (x.fe Q N main base Fin HA HP).1,rest,(x.fe Q N main base Fin HA HP).2⟩
  | []=>x
 else match x.step Q main base (x.pick Q N main base Fin HA HP)with
 |.go g w3 _=>⟨ext x.p x.L (x.pick Q N main base Fin HA HP).heap.size (w3.heap.size-(x.pick Q N main base Fin HA HP).heap.size),x.L+(w3.heap.size-(x.pick Q N main base Fin HA HP).heap.size),
    g.frame,g.callers.take (g.callers.length-base.length),w3⟩
 |_=>x
noncomputable def Nd.path (x:Nd):Nat->Nd
 |0=>x
 |k+1=>(Nd.path x k).nx Q main base Fin hl
open Classical in
noncomputable def Nd.cnt (x:Nd):Nat:=
 if Gi H x.f then hl.m1 else(gw (x.step Q main base (x.pick Q N main base Fin HA HP))).drawn-(x.pick Q N main base Fin HA HP).drawn
open Classical in
noncomputable def Nd.piece (x:Nd) (i:Nat):Question->Nat:=
 if Gi H x.f then hl.WO (x.fe Q N main base Fin HA HP).1 (x.fe Q N main base Fin HA HP).2 i else(x.pick Q N main base Fin HA HP).tape ((x.pick Q N main base Fin HA HP).drawn+i)
end
instance : Inhabited (Question -> Nat) := ⟨fun _ => 0⟩
def Ends (P:Program) (fr:Frame) (w1:World):Prop:=(∃v,fr.leaving P w1 (.returned v))\/∃ch,fr.leaving P w1 (.panicked ch)
theorem Ends.after {P:Program} (h:Ends P fr w1):∃b,step P (lone fr [Base P] w1)=.next (lone b [] w1)/\∃o w2,step P (lone b [] w1)=.ended o w2:=by
 rcases h with⟨v,h⟩|⟨ch,h⟩
 .exact⟨_,step_leave_returned h,fY P v w1⟩
 .exact⟨_,step_leave_panicked h,eZ P ch w1⟩
theorem before {P:Program} {m0:Machine} (h:runN P n m0=.next (lone fr [Base P] w1)) (he:Ends P fr w1) {ν:Nat} {gs:List Frame}
 (hv:runN P ν m0=.next (lone g (gs++[Base P]) v)):ν<=n/\runN P (n-ν) (lone g (gs++[Base P]) v)=.next (lone fr [Base P] w1):=by
 obtain⟨b,h1,o,w2,h2⟩:=he.after
 have hle:ν<=n:=by
  rcases Nat.lt_or_ge n ν with aA|xU
  .exfalso;obtain⟨j,rfl⟩:∃j,ν=(n+1)+j:=⟨ν-(n+1),by omega⟩
   rw[runN_add,ry P n _ _ h,h1]at hv;cases j with
   |zero=>
    simp only[runN,Stepped.next.injEq]at hv;have:=(eR hv).2.1;simp at this
   |succ j=>simp only[runN,h2]at hv;cases hv
  .exact xU
 refine⟨hle,?_⟩;have:n=ν+(n-ν):=by omega
 rw[this,runN_add,hv]at h;exact h
theorem vP {P:Program} {b:Frame} {v1:World} (h:runN P r σ=.next (lone fr [Base P] w1)) (hs:step P σ=.next (lone b [] v1)) (hb:∃o w2,step P (lone b [] v1)=.ended o w2):r=0/\σ=lone fr [Base P] w1:=by
 obtain⟨o,w2,hb⟩:=hb;cases r with
 |zero=>simp only[runN,Stepped.next.injEq]at h;exact⟨rfl,h⟩
 |succ r=>
  exfalso;simp only[runN,hs]at h;cases r with
  |zero=>
   simp only[runN,Stepped.next.injEq]at h;have:=(eR h).2.1;simp at this
  |succ r=>simp only[runN,hb]at h;cases h
theorem vQ {P:Program} {o:Outcome} (h:runN P r σ=.next (lone fr [Base P] w1)) (he:Ends P fr w1) (hs:step P σ=.ended o w2):False:=by
 cases r with
 |zero=>
  simp only[runN,Stepped.next.injEq]at h;obtain⟨b,h1,_⟩:=he.after;rw[h,h1]at hs;cases hs
 |succ r=>simp only[runN,hs]at h;cases h
theorem FL.above {P:Program} {S:Nat->Bool} {H:FuncId->Code->Code->Prop} {p:Pi} (h:FL P S H p (f::t) (f'::t')) {c c':Code} (hh:H f'.fn c c'):∃g g' r r',t=g::r/\t'=g'::r'/\FL P S H p (g::r) (g'::r'):=by
 cases h with
 |one h r=>exact absurd (h.fn▸hh) (r.2 c c')
 |cons h k=>
  cases k with
  |one h r=>exact⟨_,_,_,_,rfl,rfl,.one h r⟩
  |cons h t=>exact⟨_,_,_,_,rfl,rfl,.cons h t⟩
section
variable {P:Program} {F:Array Func} {S:Nat->Bool} {H:FuncId->Code->Code->Prop} {N:Nat} {HA:kW} {HP:dM} {C:Value->World->Prop}
theorem Gj {p:Pi} (hl:rD P S H N HA HP C) (hf:FL P S H p (f::t) (f'::t')) (hh:Gi H f'):JH H f f'\/∃w k,f.todo=.code (.refuse w)::k/\f.mode=.run:=by
 obtain⟨hm,c,c',k',ht,hH⟩:=hh;have qG:=hf.head.mode;rw[hm]at qG;have bi:f.mode=.run:=by generalize f.mode=o at qG;cases qG;rfl
 have D9:=hf.head.todo;rw[ht]at D9
 have key:∀x,f.todo=x->TL P S (H f.fn) p x (.code c'::k')->JH H f f'\/∃w k,f.todo=.code (.refuse w)::k/\f.mode=.run:=by
  intro x hx D9;cases D9 with
  |cons hi D9=>
   cases hi with
   | @code c0 _ ME=>
     rcases hl.only _ c c' c0 hH (hf.head.fn▸ME)with h|⟨w,h⟩
     .exact .inl ⟨bi,hm,c0,c',_,k',hx,ht,h⟩
     .rw[h]at hx;exact .inr ⟨w,_,hx,bi⟩
 exact key _ rfl D9
theorem t6 {p:Pi} (hc:Closed P F S H) (hg:iz P S p) {lf:Frame} {rB top:List Frame} {w:World} (hw:WR P S (KS P S) N p lw w)
 (hf:FL P S H p (lf::rB) (f::top)) {R:Value->World->Prop} (hl:rD P S H N HA HP C) (Ea:WN P lf rB lw R C) (main:Bool) (base:List Frame) (hb:Of P S main base):
 CT (ae P F) main base (rC P S N p R) HA HP (jK p) (cz N p) f top w:=by
 refine Classical.byContradiction fun Yo=>?_;let Fin:=rC P S N p R
 let x0:Nd:=⟨p,lw.heap.size,f,top,w⟩
 have qd:¬x0.ct (ae P F) N main base Fin HA HP:=Yo;let X:=fun k=>Nd.path (ae P F) main base Fin hl x0 k
 let pk:=fun k=>(X k).pick (ae P F) N main base Fin HA HP
 let m:=fun k=>(X k).cnt (ae P F) main base Fin hl
 let D:=fun k=>fZ m lw.drawn k
 let start:=fun T:Nat->Question->Nat=>lone lf (rB++[Base P]) {lw with tape:=T}
 have inv:∀k (T:Nat->Question->Nat),(∀j,j<k->∀i,i<m j->T (D j+i)=(X j).piece (ae P F) main base Fin hl i)->∃ν g gs v,k<=ν/\runN P ν (start T)=.next (lone g (gs++[Base P]) v)/\WR P S (KS P S) N (X k).p v (X k).w/\
  FL P S H (X k).p (g::gs) ((X k).f::(X k).top)/\iz P S (X k).p/\v.tape=T/\v.drawn=D k/\v.heap.size=(X k).L/\(¬(X k).ct (ae P F) N main base Fin HA HP)/\Le p (X k).p:=by
  intro k;induction k with
  |zero=>intro T _;exact⟨0,lf,rB,{lw with tape:=T},Nat.le_refl _,rfl,hw.tape T lw.drawn,hf,hg,rfl,rfl,rfl,qd,Le.refl p⟩
  |succ k ih=>
   intro T hT;obtain⟨ν,g,gs,v,e0,e1,e2,e3,e4,e5,e6,e7,e8,e9⟩:=ih T fun j hj i hi=>hT j (by omega) i hi;obtain⟨vR,rA⟩:=(X k).tZ (ae P F) N main base Fin HA HP e8;have xI:WR P S (KS P S) N (X k).p v (pk k):=e2.env vR;obtain⟨n,fr,w1,c1,c2⟩:=Ea T
   have mH:Ends P fr w1:=by
    rcases c2 with⟨rv,h,_⟩|⟨e,ch,h,_⟩
    .exact .inl ⟨rv,h⟩
    .exact .inr ⟨_,h⟩
   obtain⟨hle,qi⟩:=before c1 mH e1;by_cases lB:Gi H (X k).f
   ·
    rcases Gj hl e3 lB with hh|⟨ws,kk,Yp,Yq⟩
    .have tw:m k=hl.m1:=by show Nd.cnt _ _ _ _ hl (X k)=_;unfold Nd.cnt;rw[if_pos lB]
     obtain⟨lc,fc,yi,rest,hgs,qH,MG⟩:∃lc fc yi rest,gs=lc::yi/\(X k).top=fc::rest/\FL P S H (X k).p (lc::yi) (fc::rest):=by
      obtain⟨_,_,c,c',_,_,_,_,hH⟩:=hh;obtain⟨lc,fc,lr,r,h1,h2,h3⟩:=e3.above hH;exact⟨lc,fc,lr,r,h1,h2,h3⟩
     have tx:HA (jK (X k).p) (cz N (X k).p) (X k).f (pk k):=by
      let T2:Nat->Question->Nat:=fun i=>if i<D k then T i else hl.a0
      have hT2:∀j,j<k->∀i,i<m j->T2 (D j+i)=(X j).piece (ae P F) main base Fin hl i:=fun j hj i hi=>by
       have h1:=pw m lw.drawn (show j+1<=k by omega);simp only[fZ]at h1;have:D j+i<D k:=by show fZ m lw.drawn j+i<fZ m lw.drawn k;omega
       show(if D j+i<D k then T (D j+i)else hl.a0)=_;rw[if_pos this];exact hT j (by omega) i hi
      obtain⟨ν2,g2,MH,v2,_,f1,f2,f3,_,f5,f6,_,_,_⟩:=ih T2 hT2;have WQ:JH H g2 (X k).f\/_:=Gj hl f3 lB;obtain⟨n2,fr2,w3,d1,d2⟩:=Ea T2
      have vS:Ends P fr2 w3:=by
       rcases d2 with⟨rv,h,_⟩|⟨e,ch,h,_⟩
       .exact .inl ⟨rv,h⟩
       .exact .inr ⟨_,h⟩
      obtain⟨_,Oj⟩:=before d1 vS f1;rcases WQ with WQ|⟨ws,kk,Yp,Yq⟩
      .obtain⟨nn,g3,v3,e,p1,p2,p3,p4,p5⟩:=hl.check (X k).p g2 (X k).f v2 (MH++[Base P]) f3.head WQ (fun q=>by
        rw[f5,f6];show(if D k<D k then T (D k)else hl.a0) q=hl.a0 q;rw[if_neg (Nat.lt_irrefl _)])
       have hgo:runN P (ν2+nn) (start T2)=.next (lone g3 (MH++[Base P]) v3):=by rw[runN_add,f1];exact p1
       obtain⟨_,Ol⟩:=before d1 vS hgo;have hw3:WR P S (KS P S) N (X k).p v3 (X k).w:=⟨f2.inj,fun r r' h=>by rw[p5];exact f2.blk r r' h,by rw[p5];exact f2.low,f2.fix,by rw[p5];exact f2.fA,f2.jD⟩
       have hfd:∀x∈MH,FD P S H (X k).p x:=fun x hx=>f3.fd x (by simp[hx]);obtain⟨CB,q1,q2,q3⟩:=rz _ g3 MH v3 (X k).w [e] e p2 rfl p4 hfd hw3 fr2 w3 Ol vS;rcases d2 with⟨rv,h,_⟩|⟨e',Q5,h,hC,_⟩
       .have:=h.1;rw[q1]at this;cases this
       .have:=h.1;rw[q1]at this;simp only[FrameMode.panicking.injEq]at this;subst this;simp only[List.head?_cons,Option.some.injEq]at q2;subst q2;rw[p3]at hC;have MI:Alike v2 w3:=fun r=>by have:=q3 r;rw[p5]at this;exact this
        exact hl.ha (X k).p g2 (X k).f v2 (pk k) f3.head WQ (f2.env vR) (hl.AF _ _ _ MI hC)
      .exact(vQ Oj vS (step_lone_ended (o:=.unsupported _ (g2.pos P)) (w':=v2) (by
        unfold stepG;simp only[Yq];unfold stepG.exec;simp only[Yp];rfl))).elim
     have Eb:∃o,(X k).out (ae P F) N main base Fin HA HP (pk k) o:=by
      refine Classical.byContradiction fun kL=>rA (.inr (.inr (.inr ⟨tx,fc,rest,qH,fun v w3 eG bI hp=>?_⟩)));exact Classical.byContradiction fun hx=>kL ⟨(v,w3),fc,rest,eG,bI,qH,hp,hx⟩
     obtain⟨fc2,Sv,eG,bI,MJ,hHP,Om⟩:=(X k).vO (ae P F) N main base Fin HA HP Eb;rw[qH]at MJ;obtain⟨rfl,rfl⟩:fc=fc2/\rest=Sv:=by simpa using MJ
     obtain⟨nn,u,v1,p0,p1,p2,p4,p5,p6,p7,p8,p9,p10⟩:=hl.pass (X k).p g (X k).f v (pk k) lc (yi++[Base P]) _ _ eG bI e3.head hh xI hHP (fun i hi q=>by
      have:=hT k (by omega) i (by rw[tw];exact hi);rw[e5,e6,this];unfold Nd.piece;rw[if_pos lB])
     have FU:X (k+1)=⟨hl.q3 (X k).p (X k).L (X k).f (pk k) ((X k).fe (ae P F) N main base Fin HA HP).1 ((X k).fe (ae P F) N main base Fin HA HP).2,(X k).L+hl.ln,fc.finish ((X k).fe (ae P F) N main base Fin HA HP).1,rest,((X k).fe (ae P F) N main base Fin HA HP).2⟩:=by
      show(X k).nx (ae P F) main base Fin hl=_;unfold Nd.nx;rw[if_pos lB,qH]
     rw[FU];rw[e7]at p2 p4 p5 p6 p7;refine⟨ν+nn,lc.finish u,yi,v1,by omega,by rw[runN_add,e1,hgs];exact p1,p4,(MG.mono p5).top ((MG.mono p5).head.finish p2) (dL _ _),e4.mono p5,p8.trans e5,?_,by rw[p10,e7],?_,e9.trans p5⟩
     .rw[p9,e6];show D k+hl.m1=fZ m lw.drawn k+m k;rw[tw]
     .unfold Nd.ct;rw[<-p6,<-p7];exact Om
    .exact(vQ qi mH (step_lone_ended (o:=.unsupported _ (g.pos P)) (w':=v) (by
      unfold stepG;simp only[Yq];unfold stepG.exec;simp only[Yp];rfl))).elim
   ·
    have tw:m k=(gw ((X k).step (ae P F) main base (pk k))).drawn-(pk k).drawn:=by show Nd.cnt _ _ _ _ hl (X k)=_;unfold Nd.cnt;rw[if_neg lB]
    have AG:kK (m k) v (pk k):=fun j hj q=>by
     have:=hT k (by omega) j hj;rw[e5,e6,this];unfold Nd.piece;rw[if_neg lB]
    have hd:(gw (stepG (ae P F) main {frame:=(X k).f,callers:=(X k).top++base,status:=.running,dying:=none} (pk k))).drawn<=(pk k).drawn+m k:=by
     rw[tw];show(gw ((X k).step (ae P F) main base (pk k))).drawn<=(pk k).drawn+((gw ((X k).step (ae P F) main base (pk k))).drawn-(pk k).drawn)
     omega
    have Oo:=dC.step (b:=Base P) (bs:=[]) (aW:=base) hc xI e4 e3 (fun c c' k1 k1' hm h1 h2 hH=>lB ⟨by
     have qG:=e3.head.mode;rw[hm]at qG;generalize(X k).f.mode=o at qG;cases qG;rfl,c,c',k1',h2,e3.head.fn▸hH⟩) (fun⟨_,o,_,_,_,_,_,_,h5,_⟩=>by rw[hl.bare o.op]at h5;cases h5) true main hb AG hd
    rcases Oo with⟨o,w3,es,hs⟩|⟨q,ch,Q5,w3,es,Cv,hs⟩|⟨c,nn,v1,w3,es,cB,hm,Sx,jL⟩
    .exact(vQ qi mH (step_lone_ended (o:=o) (w':=w3) (by rw[hs];rfl))).elim
    .exfalso;have cg:step P (lone g (gs++[Base P]) v)=.next (lone ((Base P).raise ch) [] w3):=step_lone_go (by rw[hs];rfl);obtain⟨_,hσ⟩:=vP qi cg (eZ P ch w3);rw[hσ]at cg;rcases c2 with⟨rv,h,_⟩|⟨e,CB,h,_,hnv⟩
     .rw[step_leave_returned h]at cg;simp only[Stepped.next.injEq]at cg;have q1:=(eR cg).1;rw[dH]at q1;have:=congrArg (fun f:Frame=>f.mode) q1;simp[Base,Frame.raise]at this
     .rw[step_leave_panicked h]at cg;simp only[Stepped.next.injEq]at cg;have q1:=congrArg (fun f:Frame=>f.mode) (eR cg).1;simp only[Base,Frame.raise,FrameMode.panicking.injEq]at q1;rw[<-q1]at Cv;cases Cv with
      |cons b1 b2 hv _=>exact hnv S q _ hl.marked hv
    .obtain⟨rE,t7,tf⟩:=cP.fair xI hm Sx;rcases jL with⟨f2,Kg,t2,Kh,MG,hs,tg⟩|⟨Oq,AH,hv,hs,tg⟩
     .have cg:step P (lone g (gs++[Base P]) v)=.next (lone f2 (t2++[Base P]) v1):=step_lone_go (by rw[hs];rfl);have j8:=ry P ν _ _ e1;rw[cg]at j8;have kM:(X k).step (ae P F) main base (pk k)=.go (il Kg (Kh++base)) w3 cB:=tg
      have FU:X (k+1)=⟨ext (X k).p (X k).L (pk k).heap.size c,(X k).L+c,Kg,Kh,w3⟩:=by
       show(X k).nx (ae P F) main base Fin hl=_;unfold Nd.nx;rw[if_neg lB];have Ki:(X k).step (ae P F) main base ((X k).pick (ae P F) N main base Fin HA HP)=.go (il Kg (Kh++base)) w3 cB:=tg;rw[Ki]
       have cM:w3.heap.size-((X k).pick (ae P F) N main base Fin HA HP).heap.size=c:=by
        have h6:w3.heap.size=(pk k).heap.size+c:=hm.lj;show w3.heap.size-(pk k).heap.size=c;rw[h6,Nat.add_sub_cancel_left]
       simp only[cM];congr 1;rw[List.length_append,Nat.add_sub_cancel];exact List.take_left
      rw[FU];have hrel:=hm.rel;rw[e7]at hrel MG t7 tf;have Ec:=fB (X k).p (X k).L (pk k).heap.size c;refine⟨ν+1,f2,t2,v1,by omega,j8,hrel,MG,e4.mono Ec,hm.tape.trans e5,?_,by rw[hm.size,e7],?_,e9.trans Ec⟩
      .rw[hm.drawn,e6]
       have:m k=nn:=by
        rw[tw,kM];have h5:w3.drawn=(pk k).drawn+nn:=hm.lp;show w3.drawn-(pk k).drawn=nn;rw[h5,Nat.add_sub_cancel_left]
       show D k+nn=fZ m lw.drawn k+m k;rw[this]
      .intro AI;refine rA (.inl ⟨w3,cB,Kg,Kh,kM,rE,?_⟩);unfold Nd.ct at AI;rw[t7,tf]at AI;exact AI
     .exfalso;have cg:step P (lone g (gs++[Base P]) v)=.next (lone ((Base P).finish Oq) [] v1):=step_lone_go (by rw[hs];rfl);obtain⟨_,hσ⟩:=vP qi cg (fY P Oq v1);rw[hσ]at cg;rcases c2 with⟨rv,h,hR⟩|⟨e,CB,h,_⟩
      .rw[step_leave_returned h]at cg;simp only[Stepped.next.injEq]at cg;obtain⟨q1,_,q3⟩:=eR cg;rw[dH,dH]at q1
       have FV:rv=Oq:=by
        have:=congrArg (fun f:Frame=>f.tmps) q1;simpa using this
       subst FV;subst q3;have rF:Fin (aH (jK (X k).p) (pk k) w3) (aH (cz N (X k).p) (pk k) w3) AH w3:=⟨_,rv,w1,hR,hv,hm.rel,e9.trans (fB _ _ _ _),t7.symm,tf.symm⟩
       rcases tg with⟨b',vL,lC,tg⟩|⟨lC,tg⟩
       .exact rA (.inr (.inl ⟨w3,cB,AH,b',vL,lC,tg,rE,rF⟩))
       .exact rA (.inr (.inr (.inl ⟨w3,cB,AH,lC,tg,rE,rF⟩)))
      .rw[step_leave_panicked h]at cg;simp only[Stepped.next.injEq]at cg;have q1:=(eR cg).1;rw[dH]at q1;have:=congrArg (fun f:Frame=>f.mode) q1;simp[Base,Frame.raise]at this
 obtain⟨T,hT⟩:=splice m (fun k j=>(X k).piece (ae P F) main base Fin hl j) lw.drawn;obtain⟨n,fr,w1,c1,c2⟩:=Ea T
 have mH:Ends P fr w1:=by
  rcases c2 with⟨rv,h,_⟩|⟨e,ch,h,_⟩
  .exact .inl ⟨rv,h⟩
  .exact .inr ⟨_,h⟩
 obtain⟨ν,g,gs,v,e0,e1,_⟩:=inv (n+1) T fun j _ i hi=>hT j i hi;obtain⟨hle,_⟩:=before c1 mH e1;omega
end
end Go.aO
