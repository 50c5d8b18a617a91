/- A part. Conditions: none. -/
import Derived.Test.YtehbindidbgacaaGreatDoorT01
set_option linter.all false
namespace Go.aB
variable {cL t t':List Frame} {f f' fr g:Frame} {id m n r:Nat} {k l l':List Item} {kn own:Nat->Prop} {lw v w1 w2:World} {σ:Machine}
section
variable {P:Program} {F:Array Func} {S:Nat->Bool} {H:FuncId->Code->Code->Prop} {N:Nat} {p:Pi} {w w':World} {b:Frame} {bs:List Frame} {aH:List Frame}
theorem Ed {f:Nat} (h:KS P S (.label (100000+f))):S (P.funcs.size+P.globals.size+1+f)=false:=by
 have h:(decide (100000+f<100000)||!S (P.funcs.size+P.globals.size+1+(100000+f-100000)))=true:=h;rw[Nat.add_sub_cancel_left,decide_eq_false (by omega),Bool.false_or]at h;simpa using h
theorem Ee {f:Nat} (h:S (P.funcs.size+P.globals.size+1+f)=false):KS P S (.label (100000+f)):=by
 show(decide (100000+f<100000)||!S (P.funcs.size+P.globals.size+1+(100000+f-100000)))=true;rw[Nat.add_sub_cancel_left,h];simp
theorem TL.kind {H:Code->Code->Prop} (h:TL P S H p l l'):(match l with|.call _ true _ _::_=>CallKind.wrapped|_=>CallKind.normal)=.normal/\(match l' with|.call _ true _ _::_=>CallKind.wrapped|_=>CallKind.normal)=.normal:=by
 cases h with
 |nil=>exact⟨rfl,rfl⟩
 |cons hi ht=>cases hi<;>exact⟨rfl,rfl⟩
theorem FL.head (h:FL P S H p (f::t) (f'::t')):jc P S H p f f':=by
 cases h with
 |one h=>exact h
 |cons h=>exact h
theorem FL.top {g':Frame} (h:FL P S H p (f::t) (f'::t')) (hg:jc P S H p g g') (hr:g.roundOf=f.roundOf/\g.fn=f.fn):FL P S H p (g::t) (g'::t'):=by
 cases h with
 |one h r=>exact .one hg ⟨hr.1.trans r.1,by rw[hr.2];exact r.2⟩
 |cons h t=>exact .cons hg t
theorem cS (f:Frame) (v:Value):(f.finish v).roundOf=f.roundOf/\(f.finish v).fn=f.fn:=by
 unfold Frame.finish;split<;>exact⟨rfl,rfl⟩
theorem gv (f:Frame) (v:List PanicEntry):(f.raise v).roundOf=f.roundOf/\(f.raise v).fn=f.fn:=by
 unfold Frame.raise;split<;>exact⟨rfl,rfl⟩
theorem cH.apply (hc:Closed P F S H) (hw:WR P S (KS P S) N p w w') {top:List Frame} (hf:FL P S H p (f::top) (f'::cL)) (hm:iV m w w')
 {s s':Sem Next} (hs:SR P F S (KS P S) N (QX S (KS P S)) s s' p) (hd:(gw (stepG.apply (aa P F) true f' (cL++aH) none s' w')).drawn<=w'.drawn+m):
 cH P S H N p w w' b bs aH (stepG.apply P true f (top++b::bs) none s w) (stepG.apply (aa P F) true f' (cL++aH) none s' w'):=by
 have ho:=SR.sound hs w w' #[] #[] m hw hm (Nat.le_trans (mI ..) hd);have eU:=hf.head;have hk:=eU.todo.kind;have LI:(f'.kind==CallKind.early)=false:=by rw[eU.iU];rfl
 rcases ho with⟨x,w1,es1,e,hx⟩|⟨c,n,w1,eD,es1,fs,k1,k2,⟨x,y,e,e',hq⟩|⟨v,v',e,e',hv⟩⟩
 .cases x with
  |stuck Vy=>exact .inl ⟨_,_,_,by simp only[stepG.apply,if_true,e];rfl⟩
  |unsupported u=>cases u<;>first|exact absurd hx id|exact .inl ⟨_,_,_,by simp only[stepG.apply,if_true,e];rfl⟩
  |_=>exact absurd hx id
 .rw[Array.empty_append]at e';have hle:=dZ p w.heap.size w'.heap.size c;have aX:∀z∈seen (aa P F) f'.fn fs,DM N (ext p w.heap.size w'.heap.size c) z:=fun z hz=>k2 z (mem_seen hz);have vV:=hf.mono hle;cases hq with
  | @value v v' h=>
    have t:=cH.trans (b:=b) (bs:=bs) (aH:=aH) k1 (es:=seen P f.fn (if f.kind==CallKind.early then #[]else es1)) aX (cH.go k1.rel (vV.top (vV.head.finish h) (cS f v)));simpa only[stepG.apply,if_true,e,e',LI,Bool.false_eq_true,if_false,GStep.after]using t
  |skip=>
   have t:=cH.trans (b:=b) (bs:=bs) (aH:=aH) k1 (es:=seen P f.fn (if f.kind==CallKind.early then #[]else es1)) aX (cH.go k1.rel (vV.top (vV.head.finish VR.undef) (cS f _)));simpa only[stepG.apply,if_true,e,e',LI,Bool.false_eq_true,if_false,GStep.after]using t
  | @enter g xs aQ hg h=>
    have t:=cH.trans (b:=b) (bs:=bs) (aH:=aH) k1 (es:=seen P f.fn (if f.kind==CallKind.early then #[]else es1)) aX (cH.go k1.rel (FL.cons (jc.enter hc hg h hk.1 hk.2) vV));simp only[stepG.apply,if_true,e,e',LI,Bool.false_eq_true,if_false,GStep.after];exact t
  | @round l l' g xs aQ a1 a2 hl hg h h1 h2 hz=>
    have hn:∀a b,¬H g a b:=(hc.AM g hg).2 (Ed hz);have t:=cH.trans (b:=b) (bs:=bs) (aH:=aH) k1 (es:=seen P f.fn (if f.kind==CallKind.early then #[]else es1)) aX (cH.go k1.rel (FL.cons (jc.Eb hn hl hg h h1 h2) vV));simpa only[stepG.apply,if_true,e,e',LI,Bool.false_eq_true,if_false,GStep.after,List.cons_append]using t
 .rw[Array.empty_append]at e';have hle:=dZ p w.heap.size w'.heap.size c;have aX:∀z∈seen (aa P F) f'.fn fs,DM N (ext p w.heap.size w'.heap.size c) z:=fun z hz=>k2 z (mem_seen hz);have vV:=hf.mono hle;have t:=cH.trans (b:=b) (bs:=bs) (aH:=aH) k1 (es:=seen P f.fn (if f.kind==CallKind.early then #[]else es1)) aX (cH.go k1.rel (vV.top (vV.head.raise (.cons false false hv .nil)) (gv f _)));simpa only[stepG.apply,if_true,e,e',LI,Bool.false_eq_true,if_false,GStep.after]using t
end
section
variable {P:Program} {F:Array Func} {S:Nat->Bool} {H:FuncId->Code->Code->Prop} {N:Nat} {p:Pi} {w w':World} {b:Frame} {bs:List Frame} {aH:List Frame}
def Iw (P:Program) (S:Nat->Bool) (main':Bool) (aH:List Frame):Prop:=aH=[]->main'=true/\∀f,S f=true->P.inits.idxOf? f=none
theorem cH.doReturn (hw:WR P S (KS P S) N p w w') {top:List Frame} (hf:FL P S H p (f::top) (f'::cL)) (main main':Bool) (hb:Iw P S main' aH) {v v':Value} (hv:VR S p v v'):
 cH P S H N p w w' b bs aH (Go.doReturn P main f (top++b::bs) none v w) (Go.doReturn (aa P F) main' f' (cL++aH) none v' w'):=by
 have h1:=hf.head.kind;have h2:=hf.head.iU;have h3:=hf.head.fn;have h4:=hf.head.Gx;cases hf with
 |one h r=>
  cases aH with
  |nil=>
   obtain⟨rfl,iW⟩:=hb rfl;have hi:(aa P F).inits.idxOf? f'.fn=none:=by rw[<-h3];exact iW _ h4
   unfold Go.doReturn;simp only[h1,h2,List.nil_append,hi];exact cH.Ec hw hv
  |cons b' rH=>unfold Go.doReturn;rw[h1,h2];exact cH.ret hw hv b' rH
 |cons h t=>
  unfold Go.doReturn;rw[h1,h2];cases t with
  |one h r=>exact cH.go hw (.one (h.finish hv) ⟨(cS _ _).1.trans r.1,by rw[(cS _ _).2];exact r.2⟩)
  |cons h t=>exact cH.go hw (.cons (h.finish hv) t)
def rI:Option Code->Bool
 |none=>true
 |some .ret=>true
 |_=>false
def fh (P:Program) (main:Bool) (fr:Frame) (callers:List Frame) (jump:Option Code) (w:World):GStep:=
 match fr.roundOf with
 |none=>if rI jump then .go {frame:={fr with mode:=.returning},callers,status:=.running,dying:=none} w else .ended (.stuck "exit, goto: no such block or label" (fr.pos P)) w
 |some l=>
  GStep.after (seen P fr.fn ((Instr.endRound l jump).runT P w #[]).2)<|match((Instr.endRound l jump).runT P w #[]).1 with
  |.ok v w=>Go.doReturn P main fr callers none v w
  |.halt _ w=>.ended (.stuck "range over a function: no such loop" (fr.pos P)) w
theorem jn (main:Bool) (f:Frame) (cs:List Frame) (hk:f.kind=.normal) (v:Value) (w:World):gw (Go.doReturn P main f cs none v w)=w:=by
 unfold Go.doReturn;rw[hk];cases cs with
 |nil=>
  simp only;split
  .rfl
  .split<;>rfl
 |cons c cs=>rfl
theorem gz (main:Bool) (h:f.roundOf=none) (cs:List Frame) (jump:Option Code) (w:World):
 fh P main f cs jump w=if rI jump then .go {frame:={f with mode:=.returning},callers:=cs,status:=.running,dying:=none} w else .ended (.stuck "exit, goto: no such block or label" (f.pos P)) w:=by
 unfold fh;split
 .rfl
 .rename_i h2;rw[h]at h2;cases h2
theorem gA (main:Bool) {l:Nat} (h:f.roundOf=some l) (cs:List Frame) (jump:Option Code) (w:World):
 fh P main f cs jump w=GStep.after (seen P f.fn ((Instr.endRound l jump).runT P w #[]).2) (match((Instr.endRound l jump).runT P w #[]).1 with
 |.ok v w=>Go.doReturn P main f cs none v w
 |.halt _ w=>.ended (.stuck "range over a function: no such loop" (f.pos P)) w):=by
 unfold fh;split
 .rename_i h2;rw[h]at h2;cases h2
 .rename_i h2;rw[h]at h2;cases h2;rfl
theorem Ba {x y:Option Nat} (h:RR p x y):(x=none/\y=none)\/∃l l',x=some l/\y=some l'/\p l l':=by
 cases h with
 |none=>exact .inl ⟨rfl,rfl⟩
 |some h=>exact .inr ⟨_,_,rfl,rfl,h⟩
theorem cH.leave (hw:WR P S (KS P S) N p w w') {top:List Frame} (hf:FL P S H p (f::top) (f'::cL)) (main main':Bool) (hb:Iw P S main' aH) (jump:Option Code) (hj:∀c,jump=some c->codeOk P S c=true)
 (hm:iV m w w') (hd:(gw (fh (aa P F) main' f' (cL++aH) jump w')).drawn<=w'.drawn+m):
 cH P S H N p w w' b bs aH (fh P main f (top++b::bs) jump w) (fh (aa P F) main' f' (cL++aH) jump w'):=by
 have eU:=hf.head;rcases Ba eU.round with⟨h1,h2⟩|⟨l,l',h1,h2,hl⟩
 .rw[gz main h1,gz main' h2];cases hj:rI jump with
  |true=>exact cH.go hw (hf.top (g:={f with mode:=.returning}) (g':={f' with mode:=.returning}) ⟨eU.fn,eU.Gx,eU.tmps,eU.todo,eU.defers,.returning,eU.kind,eU.iU,eU.round,eU.AM,eU.nd,eU.wide⟩ ⟨rfl,rfl⟩)
  |false=>exact cH.ended ..
 .rw[gA main' h2]at hd;rw[gA main h1,gA main' h2];rw[ii]at hd
  refine cH.run (SR.endRound hl jump hj) hw hm (ev:=fun r es=>seen P f.fn es) (Iu:=fun r es=>seen (aa P F) f'.fn es) (fun r es e he=>mem_seen he)
   (k:=fun r=>match r with|.ok v w=>Go.doReturn P main f (top++b::bs) none v w|.halt _ w=>.ended (.stuck "range over a function: no such loop" (f.pos P)) w)
   (k':=fun r=>match r with|.ok v w=>Go.doReturn (aa P F) main' f' (cL++aH) none v w|.halt _ w=>.ended (.stuck "range over a function: no such loop" (f'.pos (aa P F))) w)
   hd ?_ ?_ ?_ ?_
  .intro r;cases r with
   |ok v w=>simp only;rw[jn _ _ _ eU.iU];exact Nat.le_refl _
   |halt=>exact Nat.le_refl _
  .intro x w1 _;exact⟨_,_,_,rfl⟩
  .intro c n w1 eD x y nk hv _ _;exact cH.doReturn nk.rel (hf.mono (dZ _ _ _ _)) main main' hb hv
  .intro c n w1 eD v v' nk hv;exact cH.ended ..
theorem jc.mk' (h:jc P S H p f f') (hl:TL P S (H f.fn) p l l') {ds j6:List Deferred} (hd:DL p ds j6) (zg:(ds=[]/\j6=[])\/∀a b,¬H f.fn a b):jc P S H p {f with todo:=l,defers:=ds} {f' with todo:=l',defers:=j6}:=
 ⟨h.fn,h.Gx,h.tmps,hl,hd,h.mode,h.kind,h.iU,h.round,h.AM,zg,h.wide⟩
theorem DL.append {l l' m m':List Deferred} (h:DL p l l') (k:DL p m m'):DL p (l++m) (l'++m'):=by
 induction h with
 |nil=>exact k
 |cons g _ ih=>exact .cons g ih
end
section
variable {P:Program} {F:Array Func} {S:Nat->Bool} {H:FuncId->Code->Code->Prop} {N:Nat} {p:Pi} {w w':World} {b:Frame} {bs:List Frame} {aH:List Frame}
theorem dk (main:Bool) (h:f.todo=[]) (cs:List Frame) (w:World):stepG.exec P main true f cs none w=fh P main f cs none w:=by
 obtain⟨fn,tmps,todo,ds,mode,kind,ro⟩:=f;simp only at h;subst h;cases ro<;>rfl
theorem dm (main:Bool) (h:f.todo=.code .ret::k) (cs:List Frame) (w:World):stepG.exec P main true f cs none w=fh P main f cs (some .ret) w:=by
 obtain⟨fn,tmps,todo,ds,mode,kind,ro⟩:=f;simp only at h;subst h;cases ro<;>rfl
theorem cZ (main:Bool) (h:f.todo=.code (.exit id)::k) (cs:List Frame) (w:World):
 stepG.exec P main true f cs none w=match exitTo id k with|none=>fh P main f cs (some (.exit id)) w|some t=>.go {frame:={f with todo:=t},callers:=cs,status:=.running,dying:=none} w:=by
 obtain⟨fn,tmps,todo,ds,mode,kind,ro⟩:=f;simp only at h;subst h;cases ro<;>(unfold stepG.exec;dsimp only;cases exitTo id k<;>rfl)
theorem da (main:Bool) (h:f.todo=.code (.goto id)::k) (cs:List Frame) (w:World):
 stepG.exec P main true f cs none w=match gotoIn id k with|none=>fh P main f cs (some (.goto id)) w|some t=>.go {frame:={f with todo:=t},callers:=cs,status:=.running,dying:=none} w:=by
 obtain⟨fn,tmps,todo,ds,mode,kind,ro⟩:=f;simp only at h;subst h;cases ro<;>(unfold stepG.exec;dsimp only;cases gotoIn id k<;>rfl)
theorem cH.exec (hc:Closed P F S H) (hw:WR P S (KS P S) N p w w') (hg:fO P S p) {top:List Frame} (hf:FL P S H p (f::top) (f'::cL)) (PG:∀c c' k k',f.todo=.code c::k->f'.todo=.code c'::k'->¬H f.fn c c') (iX:f'.mode=.run->¬lX S f') (np:f'.mode=.run) (main main':Bool) (hb:Iw P S main' aH)
 (hm:iV m w w') (hd:(gw (stepG.exec (aa P F) main' true f' (cL++aH) none w')).drawn<=w'.drawn+m):
 cH P S H N p w w' b bs aH (stepG.exec P main true f (top++b::bs) none w) (stepG.exec (aa P F) main' true f' (cL++aH) none w'):=by
 have eU:=hf.head
 have te:∀{l l':List Item},TL P S (H f.fn) p l l'->cH P S H N p w w' b bs aH (.go {frame:={f with todo:=l},callers:=top++b::bs,status:=.running,dying:=none} w) (.go {frame:={f' with todo:=l'},callers:=cL++aH,status:=.running,dying:=none} w'):=
  fun h=>cH.go hw (hf.top (eU.vS h) ⟨rfl,rfl⟩)
 have ht:=eU.todo;have aX:=eU.eval hg;generalize h1:f.todo=t at ht;generalize h2:f'.todo=t' at ht;cases ht with
 |nil=>
  rw[dk main' h2]at hd;rw[dk main h1,dk main' h2];exact cH.leave hw hf main main' hb none (fun c h=>by cases h) hm hd
 | @cons i i' k k' hi ht=>
   cases hi with
   | @code c c' Gy=>
     cases Gy with
     |hole hh=>exact absurd hh (PG _ _ _ _ h1 h2)
     |seq ha hb=>unfold stepG.exec;simp only[h1,h2];exact te (.cons (.code ha) (.cons (.code hb) ht))
     |block id ha=>unfold stepG.exec;simp only[h1,h2];exact te (.cons (.code ha) (.cons (.inBlock id) ht))
     |loop ha=>unfold stepG.exec;simp only[h1,h2];exact te (.cons (.code ha) (.cons (.inLoop ha) ht))
     | @cond x a a' c c' hx ha hb=>
       have hx:=aX.at hx;unfold stepG.exec;simp only[h1,h2];revert hx;generalize f.eval x=v;generalize f'.eval x=v';intro hx;cases hx<;>first|exact cH.ended .. |skip
       rename_i bo;refine te (.cons (.code ?_) ht);cases bo
       .exact hb
       .exact ha
     |same eA AN=>
      cases c with
      |ret=>
       rw[dm main' h2]at hd;rw[dm main h1,dm main' h2];exact cH.leave hw hf main main' hb (some .ret) (fun c h=>by cases h;rfl) hm hd
      |exit id=>
       rw[cZ main' h2]at hd;rw[cZ main h1,cZ main' h2];rcases vT id ht with⟨e1,e2⟩|⟨j,j',e1,e2,hj⟩
       .rw[e2]at hd;rw[e1,e2];exact cH.leave hw hf main main' hb (some (.exit id)) (fun c h=>by cases h;rfl) hm hd
       .rw[e1,e2];exact te hj
      |goto id=>
       rw[da main' h2]at hd;rw[da main h1,da main' h2];rcases vU id ht with⟨e1,e2⟩|⟨j,j',e1,e2,hj⟩
       .rw[e2]at hd;rw[e1,e2];exact cH.leave hw hf main main' hb (some (.goto id)) (fun c h=>by cases h;rfl) hm hd
       .rw[e1,e2];exact te hj
      |skip=>
       unfold stepG.exec;simp only[h1,h2];exact te ht
      |label l=>
       unfold stepG.exec;simp only[h1,h2];exact te ht
      |seq a c=>
       simp only[codeOk,cn,Bool.and_eq_true]at eA AN;unfold stepG.exec;simp only[h1,h2];exact te (.cons (.code (.same eA.1 (AN.imp And.left fun x=>x))) (.cons (.code (.same eA.2 (AN.imp And.right fun x=>x))) ht))
      |cond x a c=>
       simp only[codeOk,cn,Bool.and_eq_true]at eA AN;have hx:=aX.at eA.1.1;unfold stepG.exec;simp only[h1,h2];revert hx;generalize f.eval x=v;generalize f'.eval x=v';intro hx;cases hx<;>first|exact cH.ended .. |skip
       rename_i bo;refine te (.cons (.code ?_) ht);cases bo
       .exact .same eA.2 (AN.imp And.right fun x=>x)
       .exact .same eA.1.2 (AN.imp And.left fun x=>x)
      |block id c=>
       unfold stepG.exec;simp only[h1,h2];exact te (.cons (.code (.same eA AN)) (.cons (.inBlock id) ht))
      |loop c=>
       unfold stepG.exec;simp only[h1,h2];exact te (.cons (.code (.same eA AN)) (.cons (.inLoop (.same eA AN)) ht))
      |scope c=>
       unfold stepG.exec;simp only[h1,h2];exact te (.cons (.code (.same eA AN)) (.cons (.inScope eA AN) ht))
      |refuse Vy=>unfold stepG.exec;simp only[h1,h2];exact cH.ended ..
      |region id ops draw=>
       have lW:∀o∈ops,(jl P S o.op||eh S o.op)=true:=fun o ho=>(Array.all_eq_true_iff_forall_mem.1 eA) o ho;unfold stepG.exec at hd⊢;simp only[h1,h2]at hd⊢;cases draw with
       |false=>exact te (.cons (.inRegion _ lW) ht)
       |true=>
        simp only[Bool.not_true,Bool.false_eq_true,if_false,choose,Sem.run,Question.forced,Question.cut]at hd⊢
        have D6:0<m:=by
         simp only[gw]at hd;omega
        have TD:=hm 0 D6 (.order f'.fn id);simp only[Nat.add_zero]at TD;have Vz:w.tape w.drawn (.order f.fn id)=w'.tape w'.drawn (.order f'.fn id):=by rw[eU.fn];exact TD
        rw[Vz];have nB:WR P S (KS P S) N p {w with drawn:=w.drawn+1} {w' with drawn:=w'.drawn+1}:=⟨hw.inj,hw.blk,hw.low,hw.fix,hw.dY,hw.ia⟩
        have tA:bX P S (KS P S) N p w w' 0 1 {w with drawn:=w.drawn+1} {w' with drawn:=w'.drawn+1}:=
         ⟨by rw[bp];exact nB,rfl,rfl,rfl,rfl,rfl,rfl,rfl,rfl,fun _ _ _=>rfl⟩
        refine .inr (.inr ⟨0,1,_,_,#[],#[],tA,by simp,.inl ⟨_,_,top,cL,?_,rfl,rfl⟩⟩);rw[bp];exact hf.top (eU.vS (.cons (.inRegion _ lW) ht)) ⟨rfl,rfl⟩
      |rangeFunc x ps a c=>
       simp only[codeOk,Bool.and_eq_true]at eA;unfold stepG.exec at hd⊢;simp only[h1,h2]at hd⊢;rw[ii]at hd;have iX:∀a b,¬H f.fn a b:=AN.resolve_left (by simp[cn]);have hz:KS P S (.label (100000+f.fn)):=Ee ((hc.AM f.fn eU.Gx).1 iX)
       refine cH.run (SR.enterLoop eU.fn eU.Gx hz eU.tmps ps eA.1.2 eA.2 eU.round) hw hm (ev:=fun r es=>seen P f.fn es) (Iu:=fun r es=>seen (aa P F) f'.fn es) (fun r es e he=>mem_seen he)
        (k:=fun r=>match r with
          |.ok (l,mark) w=>stepG.apply P true {f with todo:=.inRangeFunc l::k,defers:=mark++f.defers} (top++b::bs) none
             (do let d<-resolve (Frame.eval {f with todo:=.inRangeFunc l::k,defers:=mark++f.defers}) {callee:=.value x,args:=#[.const (.func (.yield l) #[] #[])],argTypes:=#[]} 0;invoke d.target d.args) w
          |.halt _ w=>.ended (.stuck "range over a function: no such loop" (f.pos P)) w)
        (k':=fun r=>match r with
          |.ok (l,mark) w=>stepG.apply (aa P F) true {f' with todo:=.inRangeFunc l::k',defers:=mark++f'.defers} (cL++aH) none
             (do let d<-resolve (Frame.eval {f' with todo:=.inRangeFunc l::k',defers:=mark++f'.defers}) {callee:=.value x,args:=#[.const (.func (.yield l) #[] #[])],argTypes:=#[]} 0;invoke d.target d.args) w
          |.halt _ w=>.ended (.stuck "range over a function: no such loop" (f'.pos (aa P F))) w)
        ?_ ?_ ?_ ?_ ?_
       .exact hd
       .intro r;cases r with
        |ok x w1=>exact Nat.le_trans (kh (aa P F) _ w1 #[]) (mI ..)
        |halt=>exact Nat.le_refl _
       .intro x w1 _;exact⟨_,_,_,rfl⟩
       .intro cc n w1 eD y y' nk hy tA zh;obtain⟨l,mark⟩:=y;obtain⟨l',nY⟩:=y';have hle:=dZ p w.heap.size w'.heap.size cc;have LJ:=(eU.mono hle).mk' (.cons (.kQ hy.1 iX) (ht.mono hle)) (hy.2.append (eU.defers.mono hle)) (.inr iX);refine cH.apply hc nk.rel ((hf.mono hle).top LJ ⟨rfl,rfl⟩) tA ?_ zh;refine SR.eT hc.kv ?_ ?_
        .exact(LJ.eval (hg.mono hle)).at eA.1.1
        .have:=AR.one (S:=S) (VR.yield (S:=S) hy.1);simpa [Frame.eval]using this
       .intro cc n w1 eD v v' nk hv;exact cH.ended ..
   | @inBlock id=>unfold stepG.exec;simp only[h1,h2];exact te ht
   | @inScope c eA _=>unfold stepG.exec;simp only[h1,h2];exact te ht
   | @inLoop c c' Gy=>unfold stepG.exec;simp only[h1,h2];exact te (.cons (.code Gy) (.cons (.inLoop Gy) ht))
   | @kQ l l' hl _=>unfold stepG.exec;simp only[h1,h2];exact cH.ended ..
   | @begin=>
     unfold stepG.exec at hd⊢;simp only[h1,h2]at hd⊢;refine cH.apply hc hw hf hm ?_ hd;rcases Ba eU.round with⟨e1,e2⟩|⟨l,l',e1,e2,hl⟩
     .rw[e1,e2];exact(SR.stuck (α:=Unit) (β:=Unit) (Q:=QE Unit)).ab fun q _ hq=>SR.pure .skip
     .rw[e1,e2];exact(SR.beginRound hl).ab fun q _ hq=>SR.pure .skip
   | @ig l l' hl iX=>
     unfold stepG.exec at hd⊢;simp only[h1,h2]at hd⊢;rw[ii]at hd
     refine cH.run (SR.endLoop hl) hw hm (ev:=fun r es=>seen P f.fn es) (Iu:=fun r es=>seen (aa P F) f'.fn es) (fun r es e he=>mem_seen he)
      (k:=fun r=>match r with
        |.ok jump w=>.go {frame:={f with todo:=(jump.map Item.code).toList++k},callers:=top++b::bs,status:=.running,dying:=none} w
        |.halt (.panic v) w=>.go {frame:=f.raise [{v,recovered:=false}],callers:=top++b::bs,status:=.running,dying:=none} w
        |.halt _ w=>.ended (.stuck "range over a function: no such loop" (f.pos P)) w)
      (k':=fun r=>match r with
        |.ok jump w=>.go {frame:={f' with todo:=(jump.map Item.code).toList++k'},callers:=cL++aH,status:=.running,dying:=none} w
        |.halt (.panic v) w=>.go {frame:=f'.raise [{v,recovered:=false}],callers:=cL++aH,status:=.running,dying:=none} w
        |.halt _ w=>.ended (.stuck "range over a function: no such loop" (f'.pos (aa P F))) w)
      hd ?_ ?_ ?_ ?_
     .intro r;cases r with
      |ok x w1=>exact Nat.le_refl _
      |halt x w1=>cases x<;>exact Nat.le_refl _
     .intro x w1 hx;cases x<;>first|exact⟨_,_,_,rfl⟩|exact absurd hx id
     .intro cc n w1 eD y y' nk hy tA zh;have hle:=dZ p w.heap.size w'.heap.size cc;obtain⟨rfl,hy⟩:=hy;refine cH.go nk.rel ((hf.mono hle).top ((eU.mono hle).vS ?_) ⟨rfl,rfl⟩);cases y with
      |none=>exact ht.mono hle
      |some c=>exact .cons (.code (.same (hy c rfl) (.inr iX))) (ht.mono hle)
     .intro cc n w1 eD v v' nk hv;have hle:=dZ p w.heap.size w'.heap.size cc;exact cH.go nk.rel ((hf.mono hle).top ((eU.mono hle).raise (.cons false false hv .nil)) (gv f _))
   | @inRegion ops is lW=>
     cases is with
     |nil=>unfold stepG.exec;simp only[h1,h2];exact te ht
     |cons i is=>
      unfold stepG.exec at hd⊢;simp only[h1,h2]at hd⊢;have hy:∀j,yielded ops f'.tmps j=yielded ops f.tmps j:=fun j=>(mH ops eU.tmps j).symm;have TE:(yielded ops f'.tmps)=(yielded ops f.tmps):=funext hy;rw[TE]at hd⊢;split at hd
      .rename_i jo;rw[if_pos jo,if_pos jo];have Gz:f.oper?=ops[i]?:=by unfold Frame.oper?;rw[h1]
       have DP:f'.oper?=ops[i]?:=by unfold Frame.oper?;rw[h2]
       unfold stepG.oper at hd⊢;rw[Gz,DP];rw[DP]at hd;cases ho:ops[i]? with
       |none=>exact cH.ended ..
       |some o=>
        rw[ho]at hd
        have Iy:jl P S o.op=true:=by
         have h0:=lW o (Array.mem_of_getElem? ho);rw[Bool.or_eq_true]at h0;refine h0.resolve_right fun h3=>iX np ⟨np,o,ops,i,is,_,h2,ho,h3,?_⟩;rw[TE];rw[ho]at jo;simpa using jo
        have zg:∀c,o.op≠ .defer c:=by
         intro c AO;rw[AO]at Iy;simp[jl]at Iy
        have key:∀(P:Program) (fr:Frame) (cs:List Frame) (w:World),(match fr.roundOf,o.op with
         |some l,.defer c=>stepG.apply P true fr cs none (do Instr.deferInRound l (<-resolve fr.eval c o.type);pure .skip) w
         |_,_=>stepG.apply P true fr cs none (execOp fr.eval o) w)=stepG.apply P true fr cs none (execOp fr.eval o) w:=by
         intro P fr cs w;split
         .rename_i hx;exact absurd hx (zg _)
         .rfl
        have PH:(gw (stepG.apply (aa P F) true f' (cL++aH) none (execOp f'.eval o) w')).drawn<=w'.drawn+m:=by
         rw[<-key (aa P F) f' (cL++aH) w'];exact hd
        have e1:=key P f (top++b::bs) w;have e2:=key (aa P F) f' (cL++aH) w';refine Eq.mpr (congr (congrArg (cH P S H N p w w' b bs aH) e1) e2) ?_;exact cH.apply hc hw hf hm (SR.execOp hc.fy hc.cR hc.kv aX o Iy) PH
      .rename_i jo;rw[if_neg jo,if_neg jo];exact cH.go hw (hf.top (eU.finish VR.undef) (cS f _))
end
section
variable {P:Program} {F:Array Func} {S:Nat->Bool} {H:FuncId->Code->Code->Prop} {N:Nat} {p:Pi} {w w':World} {b:Frame} {bs:List Frame} {aH:List Frame}
theorem kS {H:Code->Code->Prop} (h:TL P S H p l l'):∀d x r s k,l≠ .call d x r s::k/\l'≠ .call d x r s::k:=by
 intro d x r s k;cases h with
 |nil=>exact⟨by simp,by simp⟩
 |cons hi ht=>cases hi<;>exact⟨by simp,by simp⟩
theorem kx (h:∀d x r s k,f.todo≠ .call d x r s::k):f.catches P=false:=by
 unfold Frame.catches;split
 .rename_i hh;exact absurd hh (h _ _ _ _ _)
 .rfl
theorem cH.unwind (hc:Closed P F S H) (hw:WR P S (KS P S) N p w w') {top:List Frame} (hf:FL P S H p (f::top) (f'::cL)) (main main':Bool) (hb:Iw P S main' aH)
 (hm:iV m w w') (hd:(gw (Go.unwind (aa P F) main' f' (cL++aH) none w')).drawn<=w'.drawn+m):
 cH P S H N p w w' b bs aH (Go.unwind P main f (top++b::bs) none w) (Go.unwind (aa P F) main' f' (cL++aH) none w'):=by
 have eU:=hf.head;have AP:=eU.defers;generalize h1:f.defers=t at AP;generalize h2:f'.defers=t' at AP;unfold Go.unwind at hd⊢;rw[h1,h2];rw[h2]at hd;cases AP with
 | @cons r r' l l' hr hl=>
   simp only[ii]at hd⊢
   refine cH.run (SR.takeDeferred hr) hw hm (ev:=fun r es=>seen P f.fn es) (Iu:=fun r es=>seen (aa P F) f'.fn es) (fun r es e he=>mem_seen he)
    (k:=fun r=>match r with|.ok calls w=>.go {frame:={f with defers:=calls++l},callers:=top++b::bs,status:=.running,dying:=none} w|.halt _ w=>.ended (.stuck "the deferred calls of a range-over-func loop have been taken" (f.pos P)) w)
    (k':=fun r=>match r with|.ok calls w=>.go {frame:={f' with defers:=calls++l'},callers:=cL++aH,status:=.running,dying:=none} w|.halt _ w=>.ended (.stuck "the deferred calls of a range-over-func loop have been taken" (f'.pos (aa P F))) w)
    hd ?_ ?_ ?_ ?_
   .intro r;cases r<;>exact Nat.le_refl _
   .intro x w1 _;exact⟨_,_,_,rfl⟩
   .intro c n w1 eD y y' nk hy _ _;obtain⟨rfl,rfl⟩:=hy;have hle:=dZ p w.heap.size w'.heap.size c;exact cH.go nk.rel ((hf.mono hle).top ((eU.mono hle).mk' (eU.todo.mono hle) (hl.mono hle) (.inr (eU.nd.resolve_left fun x=>by rw[h1]at x;cases x.1))) ⟨rfl,rfl⟩)
   .intro c n w1 eD v v' nk hv;exact cH.ended ..
 |nil=>
  simp only at hd⊢;have np:=eU.mode;generalize g1:f.mode=o at np;generalize g2:f'.mode=o' at np;rw[g2]at hd;cases np with
  |run=>exact cH.ended ..
  | @panicking l l' hl=>
    simp only;have n1:=kx (P:=P) (f:=f) fun d x r s k=>(kS eU.todo d x r s k).1;have n2:=kx (P:=aa P F) (f:=f') fun d x r s k=>(kS eU.todo d x r s k).2;simp only[n1,n2,Bool.false_eq_true,if_false];cases hf with
    |one h r=>exact cH.raised hl ..
    |cons h t=>
     cases t with
     |one h r=>exact cH.go hw (.one (h.raise hl) ⟨(gv _ _).1.trans r.1,by rw[(gv _ _).2];exact r.2⟩)
     |cons h t=>exact cH.go hw (.cons (h.raise hl) t)
  |returning=>
   simp only at hd⊢;rw[<-eU.fn]at hd⊢;rcases hc.body f.fn eU.Gx with⟨e1,e2⟩|⟨fn,gq,_,_,e1,e2,_,_,_,_,_,_,e3⟩
   .rw[e1,e2];exact cH.doReturn hw hf main main' hb (eU.tmps.getD 0 VR.undef)
   .rw[e1,e2];rw[e2]at hd;simp only[ii]at hd⊢
    refine cH.run (SR.results e3 eU.tmps) hw hm (ev:=fun r es=>seen P f.fn es) (Iu:=fun r es=>seen (aa P F) f.fn es) (fun r es e he=>mem_seen he)
     (k:=fun r=>match r with|.ok v w=>Go.doReturn P main f (top++b::bs) none v w|.halt (.stuck s) w=>.ended (.stuck s (f.pos P)) w|.halt _ w=>.ended (.stuck "return: the result variables cannot be read" (f.pos P)) w)
     (k':=fun r=>match r with|.ok v w=>Go.doReturn (aa P F) main' f' (cL++aH) none v w|.halt (.stuck s) w=>.ended (.stuck s (f'.pos (aa P F))) w|.halt _ w=>.ended (.stuck "return: the result variables cannot be read" (f'.pos (aa P F))) w)
     hd ?_ ?_ ?_ ?_
    .intro r;cases r with
     |ok v w=>simp only;rw[jn _ _ _ eU.iU];exact Nat.le_refl _
     |halt x=>cases x<;>exact Nat.le_refl _
    .intro x w1 hx;cases x<;>exact⟨_,_,_,rfl⟩
    .intro c n w1 eD x y nk hv _ _;exact cH.doReturn nk.rel (hf.mono (dZ _ _ _ _)) main main' hb hv
    .intro c n w1 eD v v' nk hv;exact cH.ended ..
theorem cH.step (hc:Closed P F S H) (hw:WR P S (KS P S) N p w w') (hg:fO P S p) {top:List Frame} (hf:FL P S H p (f::top) (f'::cL)) (PG:∀c c' k k',f.mode=.run->f.todo=.code c::k->f'.todo=.code c'::k'->¬H f.fn c c') (iX:¬lX S f') (main main':Bool) (hb:Iw P S main' aH)
 (hm:iV m w w') (hd:(gw (stepG (aa P F) main' {frame:=f',callers:=cL++aH,status:=.running,dying:=none} w')).drawn<=w'.drawn+m):
 cH P S H N p w w' b bs aH (stepG P main {frame:=f,callers:=top++b::bs,status:=.running,dying:=none} w)
  (stepG (aa P F) main' {frame:=f',callers:=cL++aH,status:=.running,dying:=none} w'):=by
 have np:=hf.head.mode
 have aV:∀(P:Program) (main:Bool) (f:Frame) (cs:List Frame) (w:World),f.mode=.run->stepG P main {frame:=f,callers:=cs,status:=.running,dying:=none} w=stepG.exec P main true f cs none w:=by
  intro P main f cs w h;unfold stepG;simp only[h]
 have PI:∀(P:Program) (main:Bool) (f:Frame) (cs:List Frame) (w:World),f.mode≠ .run->stepG P main {frame:=f,callers:=cs,status:=.running,dying:=none} w=Go.unwind P main f cs none w:=by
  intro P main f cs w h;unfold stepG;simp only
 by_cases h:f.mode=.run
 .have h':f'.mode=.run:=by
   rw[h]at np;generalize f'.mode=o at np;cases np;rfl
  rw[aV _ _ _ _ _ h']at hd;rw[aV _ _ _ _ _ h,aV _ _ _ _ _ h'];exact cH.exec hc hw hg hf (fun c c' k k'=>PG c c' k k' h) (fun _=>iX) h' main main' hb hm hd
 .have h':f'.mode≠ .run:=by
   intro e;rw[e]at np;generalize hx:f.mode=o at np;cases np;exact h hx
  rw[PI _ _ _ _ _ h']at hd;rw[PI _ _ _ _ _ h,PI _ _ _ _ _ h'];exact cH.unwind hc hw hf main main' hb hm hd
end
def new (w w1:World):Nat->Prop:=fun r=>w.heap.size<=r/\r<w1.heap.size
def aq (kn:Nat->Prop) (w w1:World):Nat->Prop:=fun r=>kn r\/new w w1 r
structure Env (kn:Nat->Prop) (w w2:World):Prop where
 size:w.heap.size<=w2.heap.size
 same:∀r,kn r->w2.heap[r]?=w.heap[r]?
 os:w2.os=w.os
 out:w2.output=w.output
theorem Env.refl (kn:Nat->Prop) (w:World):Env kn w w:=⟨Nat.le_refl _,fun _ _=>rfl,rfl,rfl⟩
theorem Env.trans {w:World} (h:Env kn w w1) (k:Env kn w1 w2):Env kn w w2:=
 ⟨Nat.le_trans h.1 k.1,fun r hr=>(k.2 r hr).trans (h.2 r hr),k.os.trans h.os,k.out.trans h.out⟩
def xS (kn own:Nat->Prop) (e:Event):Prop:=
 e=noRoomEvent\/(e.sync=false/\∃r,kn r/\((∃a:Addr,e.loc=.cell a/\a.block=r)\/e.loc=.obj r)/\(e.write=true->own r))
structure Fair (kn own:Nat->Prop) (w w1:World) (es:Array Event):Prop where
 size:w.heap.size<=w1.heap.size
 others:∀r,r<w.heap.size->¬own r->w1.heap[r]?=w.heap[r]?
 os:w1.os=w.os
 out:w1.output=w.output
 tape:w1.tape=w.tape
 drawn:w.drawn<=w1.drawn
 ev:∀e∈es,xS (aq kn w w1) (aq own w w1) e
abbrev fE (f:Frame) (cs:List Frame):Goroutine:={frame:=f,callers:=cs,status:=.running,dying:=none}
abbrev kU:=(Nat->Prop)->(Nat->Prop)->Value->World->Prop
abbrev jd:=(Nat->Prop)->(Nat->Prop)->Frame->World->Prop
abbrev cT:=(Nat->Prop)->(Nat->Prop)->Frame->World->Value->World->(Nat->Prop)->(Nat->Prop)->Prop
abbrev KQ:=(Nat->Prop)->(Nat->Prop)->Frame->List Frame->World->Prop
def Body (Q:Program) (main:Bool) (base:List Frame) (Fin:kU) (HA:jd) (HP:cT) (I:KQ):KQ:=fun kn own f top w=>
 ∀w2,Env kn w w2->
  (∃w3 es f2 kV,stepG Q main (fE f (top++base)) w2=.go (fE f2 (kV++base)) w3 es/\Fair kn own w2 w3 es/\I (aq kn w2 w3) (aq own w2 w3) f2 kV w3)\/
  (∃w3 es v b bs,base=b::bs/\stepG Q main (fE f (top++base)) w2=.go (fE (b.finish v) bs) w3 es/\Fair kn own w2 w3 es/\Fin (aq kn w2 w3) (aq own w2 w3) v w3)\/
  (∃w3 es v,base=[]/\stepG Q main (fE f (top++base)) w2=.ended (.done v) w3 es/\Fair kn own w2 w3 es/\Fin (aq kn w2 w3) (aq own w2 w3) v w3)\/
  (HA kn own f w2/\∃c rest,top=c::rest/\∀v w3 du bj,HP kn own f w2 v w3 du bj->I du bj (c.finish v) rest w3)
def CT (Q:Program) (main:Bool) (base:List Frame) (Fin:kU) (HA:jd) (HP:cT):KQ:=fun kn own f top w=>
 ∀I:KQ,(∀kn own f top w,Body Q main base Fin HA HP I kn own f top w->I kn own f top w)->I kn own f top w
section
variable {Q:Program} {main:Bool} {base:List Frame} {Fin:kU} {HA:jd} {HP:cT}
theorem Body.mono {I J:KQ} (h:∀kn own f top w,I kn own f top w->J kn own f top w) {top:List Frame} {w:World} (x:Body Q main base Fin HA HP I kn own f top w):Body Q main base Fin HA HP J kn own f top w:=by
 intro w2 he;rcases x w2 he with⟨w3,es,f2,kV,h1,h2,h3⟩|x|x|⟨h1,c,rest,hc,h2⟩
 .exact .inl ⟨w3,es,f2,kV,h1,h2,h _ _ _ _ _ h3⟩
 .exact .inr (.inl x)
 .exact .inr (.inr (.inl x))
 .exact .inr (.inr (.inr ⟨h1,c,rest,hc,fun v w3 du bj hp=>h _ _ _ _ _ (h2 v w3 du bj hp)⟩))
theorem CT.mk {kn own:Nat->Prop} {f:Frame} {top:List Frame} {w:World} (h:Body Q main base Fin HA HP (CT Q main base Fin HA HP) kn own f top w):CT Q main base Fin HA HP kn own f top w:=
 fun I hI=>hI _ _ _ _ _ (h.mono fun _ _ _ _ _ x=>x I hI)
theorem CT.ind {I:KQ} (hI:∀kn own f top w,Body Q main base Fin HA HP (fun kn own f top w=>I kn own f top w/\CT Q main base Fin HA HP kn own f top w) kn own f top w->I kn own f top w)
 {top:List Frame} {w:World} (h:CT Q main base Fin HA HP kn own f top w):I kn own f top w:=
 (h (fun kn own f top w=>I kn own f top w/\CT Q main base Fin HA HP kn own f top w) fun _ _ _ _ _ x=>⟨hI _ _ _ _ _ x,CT.mk (x.mono fun _ _ _ _ _ y=>y.2)⟩).1
end
def ij (p:Pi):Nat->Prop:=fun r'=>∃r,p r r'
def bI (N:Nat) (p:Pi):Nat->Prop:=fun r'=>∃r,p r r'/\N<=r
theorem Ef (p:Pi) (L C c:Nat):ij (ext p L C c)=fun r'=>ij p r'\/(C<=r'/\r'<C+c):=by
 funext r';apply propext;constructor
 .rintro⟨r,h|⟨k,hk,h1,h2⟩⟩
  .exact .inl ⟨r,h⟩
  .exact .inr ⟨by omega,by omega⟩
 .rintro(⟨r,h⟩|⟨h1,h2⟩)
  .exact⟨r,.inl h⟩
  .exact⟨L+(r'-C),.inr ⟨r'-C,by omega,rfl,by omega⟩⟩
theorem zi {N:Nat} (p:Pi) {L:Nat} (hN:N<=L) (C c:Nat):bI N (ext p L C c)=fun r'=>bI N p r'\/(C<=r'/\r'<C+c):=by
 funext r';apply propext;constructor
 .rintro⟨r,h|⟨k,hk,h1,h2⟩,hr⟩
  .exact .inl ⟨r,h,hr⟩
  .exact .inr ⟨by omega,by omega⟩
 .rintro(⟨r,h,hr⟩|⟨h1,h2⟩)
  .exact⟨r,.inl h,hr⟩
  .exact⟨L+(r'-C),.inr ⟨r'-C,by omega,rfl,by omega⟩,by omega⟩
section
variable {P:Program} {S:Nat->Bool} {N:Nat} {p:Pi}
theorem WR.env {w:World} (h:WR P S (KS P S) N p lw w) (he:Env (ij p) w w2):WR P S (KS P S) N p lw w2:=
 ⟨h.inj,fun r r' hr=>by
   obtain⟨o,o',h1,h2,h3⟩:=h.blk r r' hr;exact⟨o,o',h1,(he.2 r' ⟨r,hr⟩).trans h2,h3⟩,h.low,h.fix,h.dY,Nat.le_trans h.ia he.1⟩
theorem WR.tape {w:World} (h:WR P S (KS P S) N p lw w) (T:Nat->Question->Nat) (d:Nat):WR P S (KS P S) N p {lw with tape:=T,drawn:=d} w:=
 ⟨h.inj,h.blk,h.low,h.fix,h.dY,h.ia⟩
theorem bX.fair {w Om:World} {c:Nat} (hw:WR P S (KS P S) N p lw w) (h:bX P S (KS P S) N p lw w c n Om w1) {es:Array Event} (he:∀e∈es,DM N (ext p lw.heap.size w.heap.size c) e):
 Fair (ij p) (bI N p) w w1 es/\ij (ext p lw.heap.size w.heap.size c)=aq (ij p) w w1/\bI N (ext p lw.heap.size w.heap.size c)=aq (bI N p) w w1:=by
 have e1:ij (ext p lw.heap.size w.heap.size c)=aq (ij p) w w1:=by
  rw[Ef];unfold aq new;rw[h.jh]
 have e2:bI N (ext p lw.heap.size w.heap.size c)=aq (bI N p) w w1:=by
  rw[zi p hw.low];unfold aq new;rw[h.jh]
 refine⟨⟨by rw[h.jh];omega,fun r hr hn=>h.others r hr fun s hs=>?_,h.Pz,h.Ij,h.xP,by rw[h.ji];omega,fun e hx=>?_⟩,e1,e2⟩
 .rcases Nat.lt_or_ge s N with ao|tz
  .exact ao
  .exact absurd ⟨s,hs,tz⟩ hn
 .rw[<-e1,<-e2];rcases he e hx with h0|⟨h1,r,r',h2,h3,h4⟩
  .exact .inl h0
  .exact .inr ⟨h1,r',⟨r,h2⟩,h3,fun Bb=>⟨r,h2,h4 Bb⟩⟩
end
def Base (P:Program):Frame:={fn:=P.funcs.size,tmps:=#[],todo:=[.extern "" #[],.code (.refuse "")],defers:=[⟨.nil,#[]⟩],mode:=.run,kind:=.normal}
theorem cN (P:Program) (v:Value):(Base P).finish v={fn:=P.funcs.size,tmps:=#[v],todo:=[.code (.refuse "")],defers:=[⟨.nil,#[]⟩],mode:=.run,kind:=.normal}:=rfl
theorem eF (P:Program) (v:Value) (w:World):∃o w1,step P (lone ((Base P).finish v) [] w)=.ended o w1:=⟨_,_,step_lone_ended (by rw[cN];rfl)⟩
theorem dL (P:Program) (ch:List PanicEntry) (w:World):∃o w1,step P (lone ((Base P).raise ch) [] w)=.ended o w1:=⟨_,_,step_lone_ended (by rfl)⟩
theorem dF {cs ds:List Frame} {w:World} (h:lone f cs w=lone g ds v):f=g/\cs=ds/\w=v:=by
 have h1:(lone f cs w).gs[0]! =(lone g ds v).gs[0]!:=by rw[h]
 have h2:(lone f cs w).world=(lone g ds v).world:=by rw[h]
 have h3:(fE f cs)=(fE g ds):=h1;simp only[Goroutine.mk.injEq]at h3;exact⟨h3.1,h3.2.1,h2⟩
def Alike (w w':World):Prop:=∀r:Nat,w'.heap[r]?=w.heap[r]? \/((∃d,w.heap[r]?=some (Obj.deferred d))/\∃d,w'.heap[r]?=some (Obj.deferred d))
theorem Alike.refl (w:World):Alike w w:=fun _=>.inl rfl
theorem Alike.trans {a b c:World} (h:Alike a b) (k:Alike b c):Alike a c:=fun r=>by
 rcases k r with k|⟨⟨d,k1⟩,k2⟩
 .rcases h r with h|⟨h1,d,h2⟩
  .exact .inl (k.trans h)
  .exact .inr ⟨h1,d,k.trans h2⟩
 .rcases h r with h|⟨h1,_⟩
  .exact .inr ⟨⟨d,h▸k1⟩,k2⟩
  .exact .inr ⟨h1,k2⟩
theorem nZ (P:Program) (n:Nat) (m m1:Machine) (h:runN P n m=.next m1):runN P (n+1) m=step P m1:=by
 rw[runN_add,h];simp only[runN];split<;>simp_all
section
variable {P:Program} {S:Nat->Bool} {H:FuncId->Code->Code->Prop} {N:Nat} {p:Pi}
def FD (P:Program) (S:Nat->Bool) (H:FuncId->Code->Code->Prop) (p:Pi) (g:Frame):Prop:=(∃d,DL p g.defers d)/\∀d x r s k,g.todo≠ .call d x r s::k
theorem FL.fd {l l':List Frame} (h:FL P S H p l l'):∀g∈l,FD P S H p g:=by
 induction h with
 |one h r=>intro g hg;obtain rfl:g=_:=by simpa using hg
           exact⟨⟨_,h.defers⟩,fun d x r s k=>(kS h.todo d x r s k).1⟩
 |cons h t ih=>
  intro g hg;rcases List.mem_cons.1 hg with rfl|hg
  .exact⟨⟨_,h.defers⟩,fun d x r s k=>(kS h.todo d x r s k).1⟩
  .exact ih g hg
theorem rJ (g:Frame) (ch:List PanicEntry):(g.raise ch).defers=g.defers/\(g.raise ch).todo=g.todo:=by
 unfold Frame.raise;split<;>exact⟨rfl,rfl⟩
theorem raise_mode (g:Frame) {ch:List PanicEntry} {e:PanicEntry} (h:ch.head?=some e):∃xU,(g.raise ch).mode=.panicking xU/\xU.head?=some e:=by
 unfold Frame.raise;split
 .refine⟨_,rfl,?_⟩;cases ch with
  |nil=>cases h
  |cons x l=>exact h
 .exact⟨_,rfl,h⟩
theorem oa:∀(n:Nat) (h:Frame) (hs:List Frame) (v w2:World) (ch:List PanicEntry) (e0:PanicEntry),h.mode=.panicking ch->ch.head?=some e0->FD P S H p h->(∀g∈hs,FD P S H p g)->
 WR P S (KS P S) N p v w2->∀(fr:Frame) (w1:World),runN P n (lone h (hs++[Base P]) v)=.next (lone fr [Base P] w1)->
 ((∃x,fr.leaving P w1 (.returned x))\/∃xU,fr.leaving P w1 (.panicked xU))->∃xU,fr.mode=.panicking xU/\xU.head?=some e0/\Alike v w1:=by
 intro n;induction n with
 |zero=>
  intro h hs v w2 ch e0 hm he hd AP hw fr w1 hr hl;simp only[runN,Stepped.next.injEq]at hr;obtain⟨rfl,_,rfl⟩:=dF hr;exact⟨ch,hm,he,Alike.refl _⟩
 |succ n ih=>
  intro h hs v w2 ch e0 hm he hd AP hw fr w1 hr hl;obtain⟨⟨d',TF⟩,zk⟩:=hd
  have bD:stepG P true {frame:=h,callers:=hs++[Base P],status:=.running,dying:=none} v=Go.unwind P true h (hs++[Base P]) none v:=by
   unfold stepG;simp only[hm]
  generalize hdd:h.defers=ds at TF;cases TF with
  | @cons r r' l l' hrr Oo=>
    obtain⟨o,o',ho,GA,hc⟩:=hw.blk r r' hrr
    have ob:(∃x,(Instr.takeDeferred r).run P v=.halt x v)->False:=by
     rintro⟨x,hx⟩
     have:step P (lone h (hs++[Base P]) v)=.ended _ _:=step_lone_ended (by
      rw[bD];unfold Go.unwind;simp only[hdd,Sem.runT_eq,hx,GStep.bare_after];rfl)
     simp only[runN,this]at hr;cases hr
    have Bc:(∀d,o≠ .deferred (some d))->False:=fun hn=>ob (by
     simp only[Instr.takeDeferred,getObj,bind,Sem.bind,Sem.run,ho];cases o<;>first|exact⟨_,rfl⟩|(rename_i d;cases d<;>first|exact⟨_,rfl⟩|exact absurd rfl (hn _)))
    rcases hc with⟨_,c,c',el,fz,rfl,rfl,_⟩|⟨hN,nf⟩
    .exact(Bc fun d h=>by cases h).elim
    .cases nf with
     |bW=>
      have aV:(Instr.takeDeferred r).run P v=.ok [] {v with heap:=v.heap.setIfInBounds r (.deferred none)}:=by
       simp[Instr.takeDeferred,getObj,setObj,bind,Sem.bind,Sem.run,ho,pure]
      have bE:step P (lone h (hs++[Base P]) v)=.next (lone {h with defers:=[]++l} (hs++[Base P]) {v with heap:=v.heap.setIfInBounds r (.deferred none)}):=step_lone_go (by
       rw[bD];unfold Go.unwind;simp only[hdd,Sem.runT_eq,aV,GStep.bare_after];rfl)
      simp only[runN,bE]at hr;obtain⟨xU,k1,k2,k3⟩:=ih {h with defers:=[]++l} hs _ {w2 with heap:=w2.heap.setIfInBounds r' (.deferred none)} ch e0 hm he ⟨⟨_,Oo⟩,zk⟩ AP (hw.setObj hrr .bV hN) fr w1 hr hl;refine⟨xU,k1,k2,Alike.trans (fun s=>?_) k3⟩;by_cases hs:r=s
      .subst hs;have ao:=(Array.getElem?_eq_some_iff.1 ho).1;exact .inr ⟨⟨_,ho⟩,none,by simp[ao]⟩
      .exact .inl (by simp[hs])
     |_=>exact(Bc fun d h=>by cases h).elim
  |nil=>
   have LK:h.catches P=false:=kx zk;cases hs with
   |nil=>
    exfalso
    have bE:step P (lone h ([]++[Base P]) v)=.next (lone ((Base P).raise ch) [] v):=step_lone_go (by
     rw[bD];unfold Go.unwind;simp only[hdd,hm,LK,Bool.false_eq_true,if_false];rfl)
    simp only[runN,bE]at hr;obtain⟨o,w5,Oq⟩:=dL P ch v;cases n with
    |zero=>
     simp only[runN,Stepped.next.injEq]at hr;have:=(dF hr).2.1;simp at this
    |succ n=>simp only[runN,Oq]at hr;cases hr
   |cons g2 pq=>
    have bE:step P (lone h (g2::pq++[Base P]) v)=.next (lone (g2.raise ch) (pq++[Base P]) v):=step_lone_go (by
     rw[bD];unfold Go.unwind;simp only[hdd,hm,LK,Bool.false_eq_true,if_false];rfl)
    simp only[runN,bE]at hr;obtain⟨VA,m1,m2⟩:=raise_mode g2 he;obtain⟨PH,VB⟩:=AP g2 (by simp);have LL:=rJ g2 ch;exact ih (g2.raise ch) pq v w2 VA e0 m1 m2 ⟨by rw[LL.1];exact PH,by rw[LL.2];exact VB⟩ (fun g hg=>AP g (by simp[hg])) hw fr w1 hr hl
end
def Ot (P:Program) (lf:Frame) (oc:List Frame) (lw:World) (R:Value->World->Prop) (C:Value->World->Prop):Prop:=
 ∀T,∃n fr w1,runN P n (lone lf (oc++[Base P]) {lw with tape:=T})=.next (lone fr [Base P] w1)/\
  ((∃v,fr.leaving P w1 (.returned v)/\R v w1)\/(∃e ch,fr.leaving P w1 (.panicked (e::ch))/\C e.v w1/\∀(S:Nat->Bool) (q:Pi) v',S (P.funcs.size+P.globals.size)=false->¬VR S q e.v v'))
def od (P:Program) (S:Nat->Bool) (N:Nat) (p:Pi) (R:Value->World->Prop) (kn own:Nat->Prop) (v':Value) (w':World):Prop:=
 ∃q v w1,R v w1/\VR S q v v'/\WR P S (KS P S) N q w1 w'/\Le p q/\kn=ij q/\own=bI N q
def eG (m:Nat->Nat) (d:Nat):Nat->Nat
 |0=>d
 |k+1=>eG m d k+m k
theorem lY (m:Nat->Nat) (d:Nat) {k j:Nat} (h:k<=j):eG m d k<=eG m d j:=by
 induction h with
 |refl=>exact Nat.le_refl _
 |step _ ih=>simp only[eG];omega
open Classical in
theorem splice {α:Type} [Inhabited α] (m:Nat->Nat) (a:Nat->Nat->α) (d:Nat):∃T:Nat->α,∀k j,j<m k->T (eG m d k+j)=a k j:=by
 refine⟨fun i=>if h:∃k,eG m d k<=i/\i<eG m d (k+1)then a h.choose (i-eG m d h.choose)else default,fun k j hj=>?_⟩;have h:∃k',eG m d k'<=eG m d k+j/\eG m d k+j<eG m d (k'+1):=⟨k,by omega,by simp only[eG];omega⟩
 simp only[dif_pos h];obtain⟨c,hc,eB⟩:∃c,(eG m d c<=eG m d k+j/\eG m d k+j<eG m d (c+1))/\h.choose=c:=⟨h.choose,h.choose_spec,rfl⟩
 rw[eB]
 have e:c=k:=by
  rcases Nat.lt_trichotomy c k with ao|heq|tK
  .have:=lY m d (show c+1<=k by omega);omega
  .exact heq
  .have:=lY m d (show k+1<=c by omega);simp only[eG]at this;omega
 subst e;congr 1;omega
def DQ (H:FuncId->Code->Code->Prop) (lf f:Frame):Prop:=lf.mode=.run/\f.mode=.run/\∃c c' k k',lf.todo=.code c::k/\f.todo=.code c'::k'/\H f.fn c c'
def Bd (H:FuncId->Code->Code->Prop) (f:Frame):Prop:=f.mode=.run/\∃c c' k',f.todo=.code c'::k'/\H f.fn c c'
structure oe (P:Program) (S:Nat->Bool) (H:FuncId->Code->Code->Prop) (N:Nat) (HA:jd) (HP:cT) (C:Value->World->Prop)where
 a0:Question->Nat
 m1:Nat
 Ou:Value->World->Nat->Question->Nat
 ln:Nat
 q3:Pi->Nat->Frame->World->Value->World->Pi
 val:Frame->Value
 only:∀fn c c' c0,H fn c c'->CR P S (H fn) c0 c'->H fn c0 c'\/∃w,c0=.refuse w
 marked:S (P.funcs.size+P.globals.size)=false
 bare:∀o,eh S o=false
 vW:∀v w w',Alike w w'->C v w'->C v w
 check:∀p lf f v cs,jc P S H p lf f->DQ H lf f->(∀q,v.tape v.drawn q=a0 q)->∃n g1 v1 e,runN P n (lone lf cs v)=.next (lone g1 cs v1)/\g1.mode=.panicking [e]/\e.v=val lf/\
  FD P S H p g1/\v1.heap=v.heap
 ha:∀p lf f v w2,jc P S H p lf f->DQ H lf f->WR P S (KS P S) N p v w2->C (val lf) v->HA (ij p) (bI N p) f w2
 pass:∀p lf f v w2 lc cs u' w3 du bj,jc P S H p lf f->DQ H lf f->WR P S (KS P S) N p v w2->HP (ij p) (bI N p) f w2 u' w3 du bj->(∀i,i<m1->∀q,v.tape (v.drawn+i) q=Ou u' w3 i q)->
  ∃n u v1,1<=n/\runN P n (lone lf (lc::cs) v)=.next (lone (lc.finish u) cs v1)/\VR S (q3 p v.heap.size f w2 u' w3) u u'/\WR P S (KS P S) N (q3 p v.heap.size f w2 u' w3) v1 w3/\
   Le p (q3 p v.heap.size f w2 u' w3)/\du=ij (q3 p v.heap.size f w2 u' w3)/\bj=bI N (q3 p v.heap.size f w2 u' w3)/\v1.tape=v.tape/\v1.drawn=v.drawn+m1/\v1.heap.size=v.heap.size+ln
structure Nd where
 p:Pi
 L:Nat
 f:Frame
 top:List Frame
 w:World
section
variable (Q:Program) (S:Nat->Bool) (H:FuncId->Code->Code->Prop) (N:Nat) (main:Bool) (base:List Frame) (Fin:kU) (HA:jd) (HP:cT)
def Nd.ct (x:Nd):Prop:=CT Q main base Fin HA HP (ij x.p) (bI N x.p) x.f x.top x.w
def Nd.step (x:Nd) (w2:World):GStep:=stepG Q main (fE x.f (x.top++base)) w2
def Nd.bad (x:Nd) (w2:World):Prop:=
 Env (ij x.p) x.w w2/\
 ¬((∃w3 es f2 kV,x.step Q main base w2=.go (fE f2 (kV++base)) w3 es/\Fair (ij x.p) (bI N x.p) w2 w3 es/\CT Q main base Fin HA HP (aq (ij x.p) w2 w3) (aq (bI N x.p) w2 w3) f2 kV w3)\/
  (∃w3 es v b bs,base=b::bs/\x.step Q main base w2=.go (fE (b.finish v) bs) w3 es/\Fair (ij x.p) (bI N x.p) w2 w3 es/\Fin (aq (ij x.p) w2 w3) (aq (bI N x.p) w2 w3) v w3)\/
  (∃w3 es v,base=[]/\x.step Q main base w2=.ended (.done v) w3 es/\Fair (ij x.p) (bI N x.p) w2 w3 es/\Fin (aq (ij x.p) w2 w3) (aq (bI N x.p) w2 w3) v w3)\/
  (HA (ij x.p) (bI N x.p) x.f w2/\∃c rest,x.top=c::rest/\∀v w3 du bj,HP (ij x.p) (bI N x.p) x.f w2 v w3 du bj->CT Q main base Fin HA HP du bj (c.finish v) rest w3))
theorem Nd.Iz (x:Nd) (h:¬x.ct Q N main base Fin HA HP):∃w2,x.bad Q N main base Fin HA HP w2:=by
 refine Classical.byContradiction fun hn=>h (CT.mk fun w2 he=>?_);exact Classical.byContradiction fun hx=>hn ⟨w2,he,hx⟩
def Nd.out (x:Nd) (w2:World) (o:Value×World):Prop:=
 ∃c rest du bj,x.top=c::rest/\HP (ij x.p) (bI N x.p) x.f w2 o.1 o.2 du bj/\¬CT Q main base Fin HA HP du bj (c.finish o.1) rest o.2
open Classical in
noncomputable def Nd.pick (x:Nd):World:=if h:∃w2,x.bad Q N main base Fin HA HP w2 then h.choose else x.w
theorem Nd.qc (x:Nd) (h:¬x.ct Q N main base Fin HA HP):x.bad Q N main base Fin HA HP (x.pick Q N main base Fin HA HP):=by
 have:=x.Iz Q N main base Fin HA HP h;unfold Nd.pick;rw[dif_pos this];exact this.choose_spec
open Classical in
noncomputable def Nd.dM (x:Nd):Value×World:=
 if h:∃o,x.out Q N main base Fin HA HP (x.pick Q N main base Fin HA HP) o then h.choose else(undef,x.w)
theorem Nd.rK (x:Nd) (h:∃o,x.out Q N main base Fin HA HP (x.pick Q N main base Fin HA HP) o):x.out Q N main base Fin HA HP (x.pick Q N main base Fin HA HP) (x.dM Q N main base Fin HA HP):=by
 unfold Nd.dM;rw[dif_pos h];exact h.choose_spec
end
section
variable {P:Program} (Q:Program) {S:Nat->Bool} {H:FuncId->Code->Code->Prop} {N:Nat} (main:Bool) (base:List Frame) (Fin:kU) {HA:jd} {HP:cT} {C:Value->World->Prop} (hl:oe P S H N HA HP C)
open Classical in
noncomputable def Nd.nx (x:Nd):Nd:=
 if Bd H x.f then
  match x.top with
  |c::rest=>⟨hl.q3 x.p x.L x.f (x.pick Q N main base Fin HA HP) (x.dM Q N main base Fin HA HP).1 (x.dM Q N main base Fin HA HP).2,x.L+hl.ln,c.finish (x.dM Q N main base Fin HA HP).1,rest,(x.dM Q N main base Fin HA HP).2⟩
  | []=>x
 else match x.step Q main base (x.pick Q N main base Fin HA HP)with
 |.go g w3 _=>⟨ext x.p x.L (x.pick Q N main base Fin HA HP).heap.size (w3.heap.size-(x.pick Q N main base Fin HA HP).heap.size),x.L+(w3.heap.size-(x.pick Q N main base Fin HA HP).heap.size),
    g.frame,g.callers.take (g.callers.length-base.length),w3⟩
 |_=>x
noncomputable def Nd.path (x:Nd):Nat->Nd
 |0=>x
 |k+1=>(Nd.path x k).nx Q main base Fin hl
open Classical in
noncomputable def Nd.cnt (x:Nd):Nat:=
 if Bd H x.f then hl.m1 else(gw (x.step Q main base (x.pick Q N main base Fin HA HP))).drawn-(x.pick Q N main base Fin HA HP).drawn
open Classical in
noncomputable def Nd.piece (x:Nd) (i:Nat):Question->Nat:=
 if Bd H x.f then hl.Ou (x.dM Q N main base Fin HA HP).1 (x.dM Q N main base Fin HA HP).2 i else(x.pick Q N main base Fin HA HP).tape ((x.pick Q N main base Fin HA HP).drawn+i)
end
instance : Inhabited (Question -> Nat) := ⟨fun _ => 0⟩
def Ends (P:Program) (fr:Frame) (w1:World):Prop:=(∃v,fr.leaving P w1 (.returned v))\/∃ch,fr.leaving P w1 (.panicked ch)
theorem Ends.after {P:Program} (h:Ends P fr w1):∃b,step P (lone fr [Base P] w1)=.next (lone b [] w1)/\∃o w2,step P (lone b [] w1)=.ended o w2:=by
 rcases h with⟨v,h⟩|⟨ch,h⟩
 .exact⟨_,step_leave_returned h,eF P v w1⟩
 .exact⟨_,step_leave_panicked h,dL P ch w1⟩
theorem before {P:Program} {m0:Machine} (h:runN P n m0=.next (lone fr [Base P] w1)) (he:Ends P fr w1) {ν:Nat} {gs:List Frame}
 (hv:runN P ν m0=.next (lone g (gs++[Base P]) v)):ν<=n/\runN P (n-ν) (lone g (gs++[Base P]) v)=.next (lone fr [Base P] w1):=by
 obtain⟨b,h1,o,w2,h2⟩:=he.after
 have hle:ν<=n:=by
  rcases Nat.lt_or_ge n ν with ao|tz
  .exfalso;obtain⟨j,rfl⟩:∃j,ν=(n+1)+j:=⟨ν-(n+1),by omega⟩
   rw[runN_add,nZ P n _ _ h,h1]at hv;cases j with
   |zero=>
    simp only[runN,Stepped.next.injEq]at hv;have:=(dF hv).2.1;simp at this
   |succ j=>simp only[runN,h2]at hv;cases hv
  .exact tz
 refine⟨hle,?_⟩;have:n=ν+(n-ν):=by omega
 rw[this,runN_add,hv]at h;exact h
theorem rL {P:Program} {b:Frame} {v1:World} (h:runN P r σ=.next (lone fr [Base P] w1)) (hs:step P σ=.next (lone b [] v1)) (hb:∃o w2,step P (lone b [] v1)=.ended o w2):r=0/\σ=lone fr [Base P] w1:=by
 obtain⟨o,w2,hb⟩:=hb;cases r with
 |zero=>simp only[runN,Stepped.next.injEq]at h;exact⟨rfl,h⟩
 |succ r=>
  exfalso;simp only[runN,hs]at h;cases r with
  |zero=>
   simp only[runN,Stepped.next.injEq]at h;have:=(dF h).2.1;simp at this
  |succ r=>simp only[runN,hb]at h;cases h
theorem rM {P:Program} {o:Outcome} (h:runN P r σ=.next (lone fr [Base P] w1)) (he:Ends P fr w1) (hs:step P σ=.ended o w2):False:=by
 cases r with
 |zero=>
  simp only[runN,Stepped.next.injEq]at h;obtain⟨b,h1,_⟩:=he.after;rw[h,h1]at hs;cases hs
 |succ r=>simp only[runN,hs]at h;cases h
theorem FL.above {P:Program} {S:Nat->Bool} {H:FuncId->Code->Code->Prop} {p:Pi} (h:FL P S H p (f::t) (f'::t')) {c c':Code} (hh:H f'.fn c c'):∃g g' r r',t=g::r/\t'=g'::r'/\FL P S H p (g::r) (g'::r'):=by
 cases h with
 |one h r=>exact absurd (h.fn▸hh) (r.2 c c')
 |cons h k=>
  cases k with
  |one h r=>exact⟨_,_,_,_,rfl,rfl,.one h r⟩
  |cons h t=>exact⟨_,_,_,_,rfl,rfl,.cons h t⟩
section
variable {P:Program} {F:Array Func} {S:Nat->Bool} {H:FuncId->Code->Code->Prop} {N:Nat} {HA:jd} {HP:cT} {C:Value->World->Prop}
theorem Be {p:Pi} (hl:oe P S H N HA HP C) (hf:FL P S H p (f::t) (f'::t')) (hh:Bd H f'):DQ H f f'\/∃w k,f.todo=.code (.refuse w)::k/\f.mode=.run:=by
 obtain⟨hm,c,c',k',ht,hH⟩:=hh;have np:=hf.head.mode;rw[hm]at np;have aV:f.mode=.run:=by generalize f.mode=o at np;cases np;rfl
 have zk:=hf.head.todo;rw[ht]at zk
 have key:∀x,f.todo=x->TL P S (H f.fn) p x (.code c'::k')->DQ H f f'\/∃w k,f.todo=.code (.refuse w)::k/\f.mode=.run:=by
  intro x hx zk;cases zk with
  |cons hi zk=>
   cases hi with
   | @code c0 _ Gy=>
     rcases hl.only _ c c' c0 hH (hf.head.fn▸Gy)with h|⟨w,h⟩
     .exact .inl ⟨aV,hm,c0,c',_,k',hx,ht,h⟩
     .rw[h]at hx;exact .inr ⟨w,_,hx,aV⟩
 exact key _ rfl zk
theorem qd {p:Pi} (hc:Closed P F S H) (hg:fO P S p) {lf:Frame} {oc top:List Frame} {w:World} (hw:WR P S (KS P S) N p lw w)
 (hf:FL P S H p (lf::oc) (f::top)) {R:Value->World->Prop} (hl:oe P S H N HA HP C) (zl:Ot P lf oc lw R C) (main:Bool) (base:List Frame) (hb:Iw P S main base):
 CT (aa P F) main base (od P S N p R) HA HP (ij p) (bI N p) f top w:=by
 refine Classical.byContradiction fun PJ=>?_;let Fin:=od P S N p R
 let x0:Nd:=⟨p,lw.heap.size,f,top,w⟩
 have mE:¬x0.ct (aa P F) N main base Fin HA HP:=PJ;let X:=fun k=>Nd.path (aa P F) main base Fin hl x0 k
 let pk:=fun k=>(X k).pick (aa P F) N main base Fin HA HP
 let m:=fun k=>(X k).cnt (aa P F) main base Fin hl
 let D:=fun k=>eG m lw.drawn k
 let start:=fun T:Nat->Question->Nat=>lone lf (oc++[Base P]) {lw with tape:=T}
 have inv:∀k (T:Nat->Question->Nat),(∀j,j<k->∀i,i<m j->T (D j+i)=(X j).piece (aa P F) main base Fin hl i)->∃ν g gs v,k<=ν/\runN P ν (start T)=.next (lone g (gs++[Base P]) v)/\WR P S (KS P S) N (X k).p v (X k).w/\
  FL P S H (X k).p (g::gs) ((X k).f::(X k).top)/\fO P S (X k).p/\v.tape=T/\v.drawn=D k/\v.heap.size=(X k).L/\(¬(X k).ct (aa P F) N main base Fin HA HP)/\Le p (X k).p:=by
  intro k;induction k with
  |zero=>intro T _;exact⟨0,lf,oc,{lw with tape:=T},Nat.le_refl _,rfl,hw.tape T lw.drawn,hf,hg,rfl,rfl,rfl,mE,Le.refl p⟩
  |succ k ih=>
   intro T hT;obtain⟨ν,g,gs,v,e0,e1,e2,e3,e4,e5,e6,e7,e8,e9⟩:=ih T fun j hj i hi=>hT j (by omega) i hi;obtain⟨rN,ob⟩:=(X k).qc (aa P F) N main base Fin HA HP e8;have tf:WR P S (KS P S) N (X k).p v (pk k):=e2.env rN;obtain⟨n,fr,w1,c1,c2⟩:=zl T
   have j7:Ends P fr w1:=by
    rcases c2 with⟨rv,h,_⟩|⟨e,ch,h,_⟩
    .exact .inl ⟨rv,h⟩
    .exact .inr ⟨_,h⟩
   obtain⟨hle,mJ⟩:=before c1 j7 e1;by_cases jp:Bd H (X k).f
   ·
    rcases Be hl e3 jp with hh|⟨ws,kk,PK,PM⟩
    .have pE:m k=hl.m1:=by show Nd.cnt _ _ _ _ hl (X k)=_;unfold Nd.cnt;rw[if_pos jp]
     obtain⟨lc,fc,tL,rest,TG,nr,GB⟩:∃lc fc tL rest,gs=lc::tL/\(X k).top=fc::rest/\FL P S H (X k).p (lc::tL) (fc::rest):=by
      obtain⟨_,_,c,c',_,_,_,_,hH⟩:=hh;obtain⟨lc,fc,lr,r,h1,h2,h3⟩:=e3.above hH;exact⟨lc,fc,lr,r,h1,h2,h3⟩
     have og:HA (ij (X k).p) (bI N (X k).p) (X k).f (pk k):=by
      let T2:Nat->Question->Nat:=fun i=>if i<D k then T i else hl.a0
      have VC:∀j,j<k->∀i,i<m j->T2 (D j+i)=(X j).piece (aa P F) main base Fin hl i:=fun j hj i hi=>by
       have h1:=lY m lw.drawn (show j+1<=k by omega);simp only[eG]at h1;have:D j+i<D k:=by show eG m lw.drawn j+i<eG m lw.drawn k;omega
       show(if D j+i<D k then T (D j+i)else hl.a0)=_;rw[if_pos this];exact hT j (by omega) i hi
      obtain⟨ν2,g2,GC,v2,_,f1,f2,f3,_,f5,f6,_,_,_⟩:=ih T2 VC;have Ov:DQ H g2 (X k).f\/_:=Be hl f3 jp;obtain⟨n2,TH,w3,d1,d2⟩:=zl T2
      have rO:Ends P TH w3:=by
       rcases d2 with⟨rv,h,_⟩|⟨e,ch,h,_⟩
       .exact .inl ⟨rv,h⟩
       .exact .inr ⟨_,h⟩
      obtain⟨_,IA⟩:=before d1 rO f1;rcases Ov with Ov|⟨ws,kk,PK,PM⟩
      .obtain⟨nn,g3,v3,e,p1,p2,p3,p4,p5⟩:=hl.check (X k).p g2 (X k).f v2 (GC++[Base P]) f3.head Ov (fun q=>by
        rw[f5,f6];show(if D k<D k then T (D k)else hl.a0) q=hl.a0 q;rw[if_neg (Nat.lt_irrefl _)])
       have hgo:runN P (ν2+nn) (start T2)=.next (lone g3 (GC++[Base P]) v3):=by rw[runN_add,f1];exact p1
       obtain⟨_,IB⟩:=before d1 rO hgo;have VD:WR P S (KS P S) N (X k).p v3 (X k).w:=⟨f2.inj,fun r r' h=>by rw[p5];exact f2.blk r r' h,by rw[p5];exact f2.low,f2.fix,by rw[p5];exact f2.dY,f2.ia⟩
       have VE:∀x∈GC,FD P S H (X k).p x:=fun x hx=>f3.fd x (by simp[hx]);obtain⟨xU,q1,q2,q3⟩:=oa _ g3 GC v3 (X k).w [e] e p2 rfl p4 VE VD TH w3 IB rO;rcases d2 with⟨rv,h,_⟩|⟨e',KP,h,hC,_⟩
       .have:=h.1;rw[q1]at this;cases this
       .have:=h.1;rw[q1]at this;simp only[FrameMode.panicking.injEq]at this;subst this;simp only[List.head?_cons,Option.some.injEq]at q2;subst q2;rw[p3]at hC;have GD:Alike v2 w3:=fun r=>by have:=q3 r;rw[p5]at this;exact this
        exact hl.ha (X k).p g2 (X k).f v2 (pk k) f3.head Ov (f2.env rN) (hl.vW _ _ _ GD hC)
      .exact(rM IA rO (step_lone_ended (o:=.unsupported _ (g2.pos P)) (w':=v2) (by
        unfold stepG;simp only[PM];unfold stepG.exec;simp only[PK];rfl))).elim
     have zm:∃o,(X k).out (aa P F) N main base Fin HA HP (pk k) o:=by
      refine Classical.byContradiction fun iX=>ob (.inr (.inr (.inr ⟨og,fc,rest,nr,fun v w3 du bj hp=>?_⟩)));exact Classical.byContradiction fun hx=>iX ⟨(v,w3),fc,rest,du,bj,nr,hp,hx⟩
     obtain⟨VF,LM,du,bj,GE,VG,IC⟩:=(X k).rK (aa P F) N main base Fin HA HP zm;rw[nr]at GE;obtain⟨rfl,rfl⟩:fc=VF/\rest=LM:=by simpa using GE
     obtain⟨nn,u,v1,p0,p1,p2,p4,p5,p6,p7,p8,p9,VH⟩:=hl.pass (X k).p g (X k).f v (pk k) lc (tL++[Base P]) _ _ du bj e3.head hh tf VG (fun i hi q=>by
      have:=hT k (by omega) i (by rw[pE];exact hi);rw[e5,e6,this];unfold Nd.piece;rw[if_pos jp])
     have AQ:X (k+1)=⟨hl.q3 (X k).p (X k).L (X k).f (pk k) ((X k).dM (aa P F) N main base Fin HA HP).1 ((X k).dM (aa P F) N main base Fin HA HP).2,(X k).L+hl.ln,fc.finish ((X k).dM (aa P F) N main base Fin HA HP).1,rest,((X k).dM (aa P F) N main base Fin HA HP).2⟩:=by
      show(X k).nx (aa P F) main base Fin hl=_;unfold Nd.nx;rw[if_pos jp,nr]
     rw[AQ];rw[e7]at p2 p4 p5 p6 p7;refine⟨ν+nn,lc.finish u,tL,v1,by omega,by rw[runN_add,e1,TG];exact p1,p4,(GB.mono p5).top ((GB.mono p5).head.finish p2) (cS _ _),e4.mono p5,p8.trans e5,?_,by rw[VH,e7],?_,e9.trans p5⟩
     .rw[p9,e6];show D k+hl.m1=eG m lw.drawn k+m k;rw[pE]
     .unfold Nd.ct;rw[<-p6,<-p7];exact IC
    .exact(rM mJ j7 (step_lone_ended (o:=.unsupported _ (g.pos P)) (w':=v) (by
      unfold stepG;simp only[PM];unfold stepG.exec;simp only[PK];rfl))).elim
   ·
    have pE:m k=(gw ((X k).step (aa P F) main base (pk k))).drawn-(pk k).drawn:=by show Nd.cnt _ _ _ _ hl (X k)=_;unfold Nd.cnt;rw[if_neg jp]
    have vX:iV (m k) v (pk k):=fun j hj q=>by
     have:=hT k (by omega) j hj;rw[e5,e6,this];unfold Nd.piece;rw[if_neg jp]
    have hd:(gw (stepG (aa P F) main {frame:=(X k).f,callers:=(X k).top++base,status:=.running,dying:=none} (pk k))).drawn<=(pk k).drawn+m k:=by
     rw[pE];show(gw ((X k).step (aa P F) main base (pk k))).drawn<=(pk k).drawn+((gw ((X k).step (aa P F) main base (pk k))).drawn-(pk k).drawn)
     omega
    have ID:=cH.step (b:=Base P) (bs:=[]) (aH:=base) hc tf e4 e3 (fun c c' k1 VI hm h1 h2 hH=>jp ⟨by
     have np:=e3.head.mode;rw[hm]at np;generalize(X k).f.mode=o at np;cases np;rfl,c,c',VI,h2,e3.head.fn▸hH⟩) (fun⟨_,o,_,_,_,_,_,_,h5,_⟩=>by rw[hl.bare o.op]at h5;cases h5) true main hb vX hd
    rcases ID with⟨o,w3,es,hs⟩|⟨q,ch,KP,w3,es,xR,hs⟩|⟨c,nn,v1,w3,es,bM,hm,LN,ik⟩
    .exact(rM mJ j7 (step_lone_ended (o:=o) (w':=w3) (by rw[hs];rfl))).elim
    .exfalso;have bD:step P (lone g (gs++[Base P]) v)=.next (lone ((Base P).raise ch) [] w3):=step_lone_go (by rw[hs];rfl);obtain⟨_,hσ⟩:=rL mJ bD (dL P ch w3);rw[hσ]at bD;rcases c2 with⟨rv,h,_⟩|⟨e,xU,h,_,TI⟩
     .rw[step_leave_returned h]at bD;simp only[Stepped.next.injEq]at bD;have q1:=(dF bD).1;rw[cN]at q1;have:=congrArg (fun f:Frame=>f.mode) q1;simp[Base,Frame.raise]at this
     .rw[step_leave_panicked h]at bD;simp only[Stepped.next.injEq]at bD;have q1:=congrArg (fun f:Frame=>f.mode) (dF bD).1;simp only[Base,Frame.raise,FrameMode.panicking.injEq]at q1;rw[<-q1]at xR;cases xR with
      |cons b1 b2 hv _=>exact TI S q _ hl.marked hv
    .obtain⟨oh,qe,pr⟩:=bX.fair tf hm LN;rcases ik with⟨f2,Eg,t2,Eh,GB,hs,pu⟩|⟨IE,vY,hv,hs,pu⟩
     .have bD:step P (lone g (gs++[Base P]) v)=.next (lone f2 (t2++[Base P]) v1):=step_lone_go (by rw[hs];rfl);have qf:=nZ P ν _ _ e1;rw[bD]at qf;have pq:(X k).step (aa P F) main base (pk k)=.go (fE Eg (Eh++base)) w3 bM:=pu
      have AQ:X (k+1)=⟨ext (X k).p (X k).L (pk k).heap.size c,(X k).L+c,Eg,Eh,w3⟩:=by
       show(X k).nx (aa P F) main base Fin hl=_;unfold Nd.nx;rw[if_neg jp];have GF:(X k).step (aa P F) main base ((X k).pick (aa P F) N main base Fin HA HP)=.go (fE Eg (Eh++base)) w3 bM:=pu;rw[GF]
       have cb:w3.heap.size-((X k).pick (aa P F) N main base Fin HA HP).heap.size=c:=by
        have h6:w3.heap.size=(pk k).heap.size+c:=hm.jh;show w3.heap.size-(pk k).heap.size=c;rw[h6,Nat.add_sub_cancel_left]
       simp only[cb];congr 1;rw[List.length_append,Nat.add_sub_cancel];exact List.take_left
      rw[AQ];have hrel:=hm.rel;rw[e7]at hrel GB qe pr;have zn:=dZ (X k).p (X k).L (pk k).heap.size c;refine⟨ν+1,f2,t2,v1,by omega,qf,hrel,GB,e4.mono zn,hm.tape.trans e5,?_,by rw[hm.size,e7],?_,e9.trans zn⟩
      .rw[hm.drawn,e6]
       have:m k=nn:=by
        rw[pE,pq];have h5:w3.drawn=(pk k).drawn+nn:=hm.ji;show w3.drawn-(pk k).drawn=nn;rw[h5,Nat.add_sub_cancel_left]
       show D k+nn=eG m lw.drawn k+m k;rw[this]
      .intro vZ;refine ob (.inl ⟨w3,bM,Eg,Eh,pq,oh,?_⟩);unfold Nd.ct at vZ;rw[qe,pr]at vZ;exact vZ
     .exfalso;have bD:step P (lone g (gs++[Base P]) v)=.next (lone ((Base P).finish IE) [] v1):=step_lone_go (by rw[hs];rfl);obtain⟨_,hσ⟩:=rL mJ bD (eF P IE v1);rw[hσ]at bD;rcases c2 with⟨rv,h,hR⟩|⟨e,xU,h,_⟩
      .rw[step_leave_returned h]at bD;simp only[Stepped.next.injEq]at bD;obtain⟨q1,_,q3⟩:=dF bD;rw[cN,cN]at q1
       have Ei:rv=IE:=by
        have:=congrArg (fun f:Frame=>f.tmps) q1;simpa using this
       subst Ei;subst q3;have ol:Fin (aq (ij (X k).p) (pk k) w3) (aq (bI N (X k).p) (pk k) w3) vY w3:=⟨_,rv,w1,hR,hv,hm.rel,e9.trans (dZ _ _ _ _),qe.symm,pr.symm⟩
       rcases pu with⟨b',rH,om,pu⟩|⟨om,pu⟩
       .exact ob (.inr (.inl ⟨w3,bM,vY,b',rH,om,pu,oh,ol⟩))
       .exact ob (.inr (.inr (.inl ⟨w3,bM,vY,om,pu,oh,ol⟩)))
      .rw[step_leave_panicked h]at bD;simp only[Stepped.next.injEq]at bD;have q1:=(dF bD).1;rw[cN]at q1;have:=congrArg (fun f:Frame=>f.mode) q1;simp[Base,Frame.raise]at this
 obtain⟨T,hT⟩:=splice m (fun k j=>(X k).piece (aa P F) main base Fin hl j) lw.drawn;obtain⟨n,fr,w1,c1,c2⟩:=zl T
 have j7:Ends P fr w1:=by
  rcases c2 with⟨rv,h,_⟩|⟨e,ch,h,_⟩
  .exact .inl ⟨rv,h⟩
  .exact .inr ⟨_,h⟩
 obtain⟨ν,g,gs,v,e0,e1,_⟩:=inv (n+1) T fun j _ i hi=>hT j i hi;obtain⟨hle,_⟩:=before c1 j7 e1;omega
end
end Go.aB
