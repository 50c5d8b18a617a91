/- A part. Conditions: none. -/
import Derived.Test.YthmokljbbkcjdaaGreatDoorT01
set_option linter.all false
namespace Go.aC
variable {cV t t':List Frame} {f f' fr g:Frame} {id m n r:Nat} {k l l':List Item} {kn own:Nat->Prop} {lw v w1 w2:World} {σ:Machine}
section
variable {P:Program} {F:Array Func} {S:Nat->Bool} {H:FuncId->Code->Code->Prop} {N:Nat} {p:Pi} {w w':World} {b:Frame} {bs:List Frame} {aK:List Frame}
theorem Fu {f:Nat} (h:KS P S (.label (100000+f))):S (P.funcs.size+P.globals.size+1+f)=false:=by
 have h:(decide (100000+f<100000)||!S (P.funcs.size+P.globals.size+1+(100000+f-100000)))=true:=h;rw[Nat.add_sub_cancel_left,decide_eq_false (by omega),Bool.false_or]at h;simpa using h
theorem Fv {f:Nat} (h:S (P.funcs.size+P.globals.size+1+f)=false):KS P S (.label (100000+f)):=by
 show(decide (100000+f<100000)||!S (P.funcs.size+P.globals.size+1+(100000+f-100000)))=true;rw[Nat.add_sub_cancel_left,h];simp
theorem TL.kind {H:Code->Code->Prop} (h:TL P S H p l l'):(match l with|.call _ true _ _::_=>CallKind.wrapped|_=>CallKind.normal)=.normal/\(match l' with|.call _ true _ _::_=>CallKind.wrapped|_=>CallKind.normal)=.normal:=by
 cases h with
 |nil=>exact⟨rfl,rfl⟩
 |cons hi ht=>cases hi<;>exact⟨rfl,rfl⟩
theorem FL.head (h:FL P S H p (f::t) (f'::t')):jh P S H p f f':=by
 cases h with
 |one h=>exact h
 |cons h=>exact h
theorem FL.top {g':Frame} (h:FL P S H p (f::t) (f'::t')) (hg:jh P S H p g g') (hr:g.roundOf=f.roundOf/\g.fn=f.fn):FL P S H p (g::t) (g'::t'):=by
 cases h with
 |one h r=>exact .one hg ⟨hr.1.trans r.1,by rw[hr.2];exact r.2⟩
 |cons h t=>exact .cons hg t
theorem dc (f:Frame) (v:Value):(f.finish v).roundOf=f.roundOf/\(f.finish v).fn=f.fn:=by
 unfold Frame.finish;split<;>exact⟨rfl,rfl⟩
theorem gM (f:Frame) (v:List PanicEntry):(f.raise v).roundOf=f.roundOf/\(f.raise v).fn=f.fn:=by
 unfold Frame.raise;split<;>exact⟨rfl,rfl⟩
theorem cR.apply (hc:Closed P F S H) (hw:WR P S (KS P S) N p w w') {top:List Frame} (hf:FL P S H p (f::top) (f'::cV)) (hm:i7 m w w')
 {s s':Sem Next} (hs:SR P F S (KS P S) N (QX S (KS P S)) s s' p) (hd:(gw (stepG.apply (ab P F) true f' (cV++aK) none s' w')).drawn<=w'.drawn+m):
 cR P S H N p w w' b bs aK (stepG.apply P true f (top++b::bs) none s w) (stepG.apply (ab P F) true f' (cV++aK) none s' w'):=by
 have ho:=SR.sound hs w w' #[] #[] m hw hm (Nat.le_trans (nj ..) hd);have fq:=hf.head;have hk:=fq.todo.kind;have Np:(f'.kind==CallKind.early)=false:=by rw[fq.i6];rfl
 rcases ho with⟨x,w1,es1,e,hx⟩|⟨c,n,w1,eO,es1,fs,k1,k2,⟨x,y,e,e',hq⟩|⟨v,v',e,e',hv⟩⟩
 .cases x with
  |stuck Yn=>exact .inl ⟨_,_,_,by simp only[stepG.apply,if_true,e];rfl⟩
  |unsupported u=>cases u<;>first|exact absurd hx id|exact .inl ⟨_,_,_,by simp only[stepG.apply,if_true,e];rfl⟩
  |_=>exact absurd hx id
 .rw[Array.empty_append]at e';have hle:=eD p w.heap.size w'.heap.size c;have aZ:∀z∈seen (ab P F) f'.fn fs,E0 N (ext p w.heap.size w'.heap.size c) z:=fun z hz=>k2 z (mem_seen hz);have wP:=hf.mono hle;cases hq with
  | @value v v' h=>
    have t:=cR.trans (b:=b) (bs:=bs) (aK:=aK) k1 (es:=seen P f.fn (if f.kind==CallKind.early then #[]else es1)) aZ (cR.go k1.rel (wP.top (wP.head.finish h) (dc f v)));simpa only[stepG.apply,if_true,e,e',Np,Bool.false_eq_true,if_false,GStep.after]using t
  |skip=>
   have t:=cR.trans (b:=b) (bs:=bs) (aK:=aK) k1 (es:=seen P f.fn (if f.kind==CallKind.early then #[]else es1)) aZ (cR.go k1.rel (wP.top (wP.head.finish VR.undef) (dc f _)));simpa only[stepG.apply,if_true,e,e',Np,Bool.false_eq_true,if_false,GStep.after]using t
  | @enter g xs aT hg h=>
    have t:=cR.trans (b:=b) (bs:=bs) (aK:=aK) k1 (es:=seen P f.fn (if f.kind==CallKind.early then #[]else es1)) aZ (cR.go k1.rel (FL.cons (jh.enter hc hg h hk.1 hk.2) wP));simp only[stepG.apply,if_true,e,e',Np,Bool.false_eq_true,if_false,GStep.after];exact t
  | @round l l' g xs aT a1 a2 hl hg h h1 h2 hz=>
    have hn:∀a b,¬H g a b:=(hc.BQ g hg).2 (Fu hz);have t:=cR.trans (b:=b) (bs:=bs) (aK:=aK) k1 (es:=seen P f.fn (if f.kind==CallKind.early then #[]else es1)) aZ (cR.go k1.rel (FL.cons (jh.Fr hn hl hg h h1 h2) wP));simpa only[stepG.apply,if_true,e,e',Np,Bool.false_eq_true,if_false,GStep.after,List.cons_append]using t
 .rw[Array.empty_append]at e';have hle:=eD p w.heap.size w'.heap.size c;have aZ:∀z∈seen (ab P F) f'.fn fs,E0 N (ext p w.heap.size w'.heap.size c) z:=fun z hz=>k2 z (mem_seen hz);have wP:=hf.mono hle;have t:=cR.trans (b:=b) (bs:=bs) (aK:=aK) k1 (es:=seen P f.fn (if f.kind==CallKind.early then #[]else es1)) aZ (cR.go k1.rel (wP.top (wP.head.raise (.cons false false hv .nil)) (gM f _)));simpa only[stepG.apply,if_true,e,e',Np,Bool.false_eq_true,if_false,GStep.after]using t
end
section
variable {P:Program} {F:Array Func} {S:Nat->Bool} {H:FuncId->Code->Code->Prop} {N:Nat} {p:Pi} {w w':World} {b:Frame} {bs:List Frame} {aK:List Frame}
def J5 (P:Program) (S:Nat->Bool) (main':Bool) (aK:List Frame):Prop:=aK=[]->main'=true/\∀f,S f=true->P.inits.idxOf? f=none
theorem cR.doReturn (hw:WR P S (KS P S) N p w w') {top:List Frame} (hf:FL P S H p (f::top) (f'::cV)) (main main':Bool) (hb:J5 P S main' aK) {v v':Value} (hv:VR S p v v'):
 cR P S H N p w w' b bs aK (Go.doReturn P main f (top++b::bs) none v w) (Go.doReturn (ab P F) main' f' (cV++aK) none v' w'):=by
 have h1:=hf.head.kind;have h2:=hf.head.i6;have h3:=hf.head.fn;have h4:=hf.head.It;cases hf with
 |one h r=>
  cases aK with
  |nil=>
   obtain⟨rfl,iN⟩:=hb rfl;have hi:(ab P F).inits.idxOf? f'.fn=none:=by rw[<-h3];exact iN _ h4
   unfold Go.doReturn;simp only[h1,h2,List.nil_append,hi];exact cR.Fs hw hv
  |cons b' si=>unfold Go.doReturn;rw[h1,h2];exact cR.ret hw hv b' si
 |cons h t=>
  unfold Go.doReturn;rw[h1,h2];cases t with
  |one h r=>exact cR.go hw (.one (h.finish hv) ⟨(dc _ _).1.trans r.1,by rw[(dc _ _).2];exact r.2⟩)
  |cons h t=>exact cR.go hw (.cons (h.finish hv) t)
def sj:Option Code->Bool
 |none=>true
 |some .ret=>true
 |_=>false
def fF (P:Program) (main:Bool) (fr:Frame) (callers:List Frame) (jump:Option Code) (w:World):GStep:=
 match fr.roundOf with
 |none=>if sj jump then .go {frame:={fr with mode:=.returning},callers,status:=.running,dying:=none} w else .ended (.stuck "exit, goto: no such block or label" (fr.pos P)) w
 |some l=>
  GStep.after (seen P fr.fn ((Instr.endRound l jump).runT P w #[]).2)<|match((Instr.endRound l jump).runT P w #[]).1 with
  |.ok v w=>Go.doReturn P main fr callers none v w
  |.halt _ w=>.ended (.stuck "range over a function: no such loop" (fr.pos P)) w
theorem jv (main:Bool) (f:Frame) (cs:List Frame) (hk:f.kind=.normal) (v:Value) (w:World):gw (Go.doReturn P main f cs none v w)=w:=by
 unfold Go.doReturn;rw[hk];cases cs with
 |nil=>
  simp only;split
  .rfl
  .split<;>rfl
 |cons c cs=>rfl
theorem gN (main:Bool) (h:f.roundOf=none) (cs:List Frame) (jump:Option Code) (w:World):
 fF P main f cs jump w=if sj jump then .go {frame:={f with mode:=.returning},callers:=cs,status:=.running,dying:=none} w else .ended (.stuck "exit, goto: no such block or label" (f.pos P)) w:=by
 unfold fF;split
 .rfl
 .rename_i h2;rw[h]at h2;cases h2
theorem gO (main:Bool) {l:Nat} (h:f.roundOf=some l) (cs:List Frame) (jump:Option Code) (w:World):
 fF P main f cs jump w=GStep.after (seen P f.fn ((Instr.endRound l jump).runT P w #[]).2) (match((Instr.endRound l jump).runT P w #[]).1 with
 |.ok v w=>Go.doReturn P main f cs none v w
 |.halt _ w=>.ended (.stuck "range over a function: no such loop" (f.pos P)) w):=by
 unfold fF;split
 .rename_i h2;rw[h]at h2;cases h2
 .rename_i h2;rw[h]at h2;cases h2;rfl
theorem Cg {x y:Option Nat} (h:RR p x y):(x=none/\y=none)\/∃l l',x=some l/\y=some l'/\p l l':=by
 cases h with
 |none=>exact .inl ⟨rfl,rfl⟩
 |some h=>exact .inr ⟨_,_,rfl,rfl,h⟩
theorem cR.leave (hw:WR P S (KS P S) N p w w') {top:List Frame} (hf:FL P S H p (f::top) (f'::cV)) (main main':Bool) (hb:J5 P S main' aK) (jump:Option Code) (hj:∀c,jump=some c->codeOk P S c=true)
 (hm:i7 m w w') (hd:(gw (fF (ab P F) main' f' (cV++aK) jump w')).drawn<=w'.drawn+m):
 cR P S H N p w w' b bs aK (fF P main f (top++b::bs) jump w) (fF (ab P F) main' f' (cV++aK) jump w'):=by
 have fq:=hf.head;rcases Cg fq.round with⟨h1,h2⟩|⟨l,l',h1,h2,hl⟩
 .rw[gN main h1,gN main' h2];cases hj:sj jump with
  |true=>exact cR.go hw (hf.top (g:={f with mode:=.returning}) (g':={f' with mode:=.returning}) ⟨fq.fn,fq.It,fq.tmps,fq.todo,fq.defers,.returning,fq.kind,fq.i6,fq.round,fq.BQ,fq.nd,fq.wide⟩ ⟨rfl,rfl⟩)
  |false=>exact cR.ended ..
 .rw[gO main' h2]at hd;rw[gO main h1,gO main' h2];rw[iw]at hd
  refine cR.run (SR.endRound hl jump hj) hw hm (ev:=fun r es=>seen P f.fn es) (J2:=fun r es=>seen (ab P F) f'.fn es) (fun r es e he=>mem_seen he)
   (k:=fun r=>match r with|.ok v w=>Go.doReturn P main f (top++b::bs) none v w|.halt _ w=>.ended (.stuck "range over a function: no such loop" (f.pos P)) w)
   (k':=fun r=>match r with|.ok v w=>Go.doReturn (ab P F) main' f' (cV++aK) none v w|.halt _ w=>.ended (.stuck "range over a function: no such loop" (f'.pos (ab P F))) w)
   hd ?_ ?_ ?_ ?_
  .intro r;cases r with
   |ok v w=>simp only;rw[jv _ _ _ fq.i6];exact Nat.le_refl _
   |halt=>exact Nat.le_refl _
  .intro x w1 _;exact⟨_,_,_,rfl⟩
  .intro c n w1 eO x y nS hv _ _;exact cR.doReturn nS.rel (hf.mono (eD _ _ _ _)) main main' hb hv
  .intro c n w1 eO v v' nS hv;exact cR.ended ..
theorem jh.mk' (h:jh P S H p f f') (hl:TL P S (H f.fn) p l l') {ds ku:List Deferred} (hd:DL p ds ku) (Ah:(ds=[]/\ku=[])\/∀a b,¬H f.fn a b):jh P S H p {f with todo:=l,defers:=ds} {f' with todo:=l',defers:=ku}:=
 ⟨h.fn,h.It,h.tmps,hl,hd,h.mode,h.kind,h.i6,h.round,h.BQ,Ah,h.wide⟩
theorem DL.append {l l' m m':List Deferred} (h:DL p l l') (k:DL p m m'):DL p (l++m) (l'++m'):=by
 induction h with
 |nil=>exact k
 |cons g _ ih=>exact .cons g ih
end
section
variable {P:Program} {F:Array Func} {S:Nat->Bool} {H:FuncId->Code->Code->Prop} {N:Nat} {p:Pi} {w w':World} {b:Frame} {bs:List Frame} {aK:List Frame}
theorem dy (main:Bool) (h:f.todo=[]) (cs:List Frame) (w:World):stepG.exec P main true f cs none w=fF P main f cs none w:=by
 obtain⟨fn,tmps,todo,ds,mode,kind,ro⟩:=f;simp only at h;subst h;cases ro<;>rfl
theorem dA (main:Bool) (h:f.todo=.code .ret::k) (cs:List Frame) (w:World):stepG.exec P main true f cs none w=fF P main f cs (some .ret) w:=by
 obtain⟨fn,tmps,todo,ds,mode,kind,ro⟩:=f;simp only at h;subst h;cases ro<;>rfl
theorem dk (main:Bool) (h:f.todo=.code (.exit id)::k) (cs:List Frame) (w:World):
 stepG.exec P main true f cs none w=match exitTo id k with|none=>fF P main f cs (some (.exit id)) w|some t=>.go {frame:={f with todo:=t},callers:=cs,status:=.running,dying:=none} w:=by
 obtain⟨fn,tmps,todo,ds,mode,kind,ro⟩:=f;simp only at h;subst h;cases ro<;>(unfold stepG.exec;dsimp only;cases exitTo id k<;>rfl)
theorem dm (main:Bool) (h:f.todo=.code (.goto id)::k) (cs:List Frame) (w:World):
 stepG.exec P main true f cs none w=match gotoIn id k with|none=>fF P main f cs (some (.goto id)) w|some t=>.go {frame:={f with todo:=t},callers:=cs,status:=.running,dying:=none} w:=by
 obtain⟨fn,tmps,todo,ds,mode,kind,ro⟩:=f;simp only at h;subst h;cases ro<;>(unfold stepG.exec;dsimp only;cases gotoIn id k<;>rfl)
theorem cR.exec (hc:Closed P F S H) (hw:WR P S (KS P S) N p w w') (hg:gp P S p) {top:List Frame} (hf:FL P S H p (f::top) (f'::cV)) (J6:∀c c' k k',f.todo=.code c::k->f'.todo=.code c'::k'->¬H f.fn c c') (i9:f'.mode=.run->¬mG S f') (nU:f'.mode=.run) (main main':Bool) (hb:J5 P S main' aK)
 (hm:i7 m w w') (hd:(gw (stepG.exec (ab P F) main' true f' (cV++aK) none w')).drawn<=w'.drawn+m):
 cR P S H N p w w' b bs aK (stepG.exec P main true f (top++b::bs) none w) (stepG.exec (ab P F) main' true f' (cV++aK) none w'):=by
 have fq:=hf.head
 have tX:∀{l l':List Item},TL P S (H f.fn) p l l'->cR P S H N p w w' b bs aK (.go {frame:={f with todo:=l},callers:=top++b::bs,status:=.running,dying:=none} w) (.go {frame:={f' with todo:=l'},callers:=cV++aK,status:=.running,dying:=none} w'):=
  fun h=>cR.go hw (hf.top (fq.wM h) ⟨rfl,rfl⟩)
 have ht:=fq.todo;have aZ:=fq.eval hg;generalize h1:f.todo=t at ht;generalize h2:f'.todo=t' at ht;cases ht with
 |nil=>
  rw[dy main' h2]at hd;rw[dy main h1,dy main' h2];exact cR.leave hw hf main main' hb none (fun c h=>by cases h) hm hd
 | @cons i i' k k' hi ht=>
   cases hi with
   | @code c c' Iu=>
     cases Iu with
     |hole hh=>exact absurd hh (J6 _ _ _ _ h1 h2)
     |seq ha hb=>unfold stepG.exec;simp only[h1,h2];exact tX (.cons (.code ha) (.cons (.code hb) ht))
     |block id ha=>unfold stepG.exec;simp only[h1,h2];exact tX (.cons (.code ha) (.cons (.inBlock id) ht))
     |loop ha=>unfold stepG.exec;simp only[h1,h2];exact tX (.cons (.code ha) (.cons (.inLoop ha) ht))
     | @cond x a a' c c' hx ha hb=>
       have hx:=aZ.at hx;unfold stepG.exec;simp only[h1,h2];revert hx;generalize f.eval x=v;generalize f'.eval x=v';intro hx;cases hx<;>first|exact cR.ended .. |skip
       rename_i bo;refine tX (.cons (.code ?_) ht);cases bo
       .exact hb
       .exact ha
     |same eP BS=>
      cases c with
      |ret=>
       rw[dA main' h2]at hd;rw[dA main h1,dA main' h2];exact cR.leave hw hf main main' hb (some .ret) (fun c h=>by cases h;rfl) hm hd
      |exit id=>
       rw[dk main' h2]at hd;rw[dk main h1,dk main' h2];rcases wN id ht with⟨e1,e2⟩|⟨j,j',e1,e2,hj⟩
       .rw[e2]at hd;rw[e1,e2];exact cR.leave hw hf main main' hb (some (.exit id)) (fun c h=>by cases h;rfl) hm hd
       .rw[e1,e2];exact tX hj
      |goto id=>
       rw[dm main' h2]at hd;rw[dm main h1,dm main' h2];rcases wO id ht with⟨e1,e2⟩|⟨j,j',e1,e2,hj⟩
       .rw[e2]at hd;rw[e1,e2];exact cR.leave hw hf main main' hb (some (.goto id)) (fun c h=>by cases h;rfl) hm hd
       .rw[e1,e2];exact tX hj
      |skip=>
       unfold stepG.exec;simp only[h1,h2];exact tX ht
      |label l=>
       unfold stepG.exec;simp only[h1,h2];exact tX ht
      |seq a c=>
       simp only[codeOk,cA,Bool.and_eq_true]at eP BS;unfold stepG.exec;simp only[h1,h2];exact tX (.cons (.code (.same eP.1 (BS.imp And.left fun x=>x))) (.cons (.code (.same eP.2 (BS.imp And.right fun x=>x))) ht))
      |cond x a c=>
       simp only[codeOk,cA,Bool.and_eq_true]at eP BS;have hx:=aZ.at eP.1.1;unfold stepG.exec;simp only[h1,h2];revert hx;generalize f.eval x=v;generalize f'.eval x=v';intro hx;cases hx<;>first|exact cR.ended .. |skip
       rename_i bo;refine tX (.cons (.code ?_) ht);cases bo
       .exact .same eP.2 (BS.imp And.right fun x=>x)
       .exact .same eP.1.2 (BS.imp And.left fun x=>x)
      |block id c=>
       unfold stepG.exec;simp only[h1,h2];exact tX (.cons (.code (.same eP BS)) (.cons (.inBlock id) ht))
      |loop c=>
       unfold stepG.exec;simp only[h1,h2];exact tX (.cons (.code (.same eP BS)) (.cons (.inLoop (.same eP BS)) ht))
      |scope c=>
       unfold stepG.exec;simp only[h1,h2];exact tX (.cons (.code (.same eP BS)) (.cons (.inScope eP BS) ht))
      |refuse Yn=>unfold stepG.exec;simp only[h1,h2];exact cR.ended ..
      |region id ops draw=>
       have mF:∀o∈ops,(jt P S o.op||eH S o.op)=true:=fun o ho=>(Array.all_eq_true_iff_forall_mem.1 eP) o ho;unfold stepG.exec at hd⊢;simp only[h1,h2]at hd⊢;cases draw with
       |false=>exact tX (.cons (.inRegion _ mF) ht)
       |true=>
        simp only[Bool.not_true,Bool.false_eq_true,if_false,choose,Sem.run,Question.forced,Question.cut]at hd⊢
        have Fk:0<m:=by
         simp only[gw]at hd;omega
        have VS:=hm 0 Fk (.order f'.fn id);simp only[Nat.add_zero]at VS;have Yo:w.tape w.drawn (.order f.fn id)=w'.tape w'.drawn (.order f'.fn id):=by rw[fq.fn];exact VS
        rw[Yo];have pR:WR P S (KS P S) N p {w with drawn:=w.drawn+1} {w' with drawn:=w'.drawn+1}:=⟨hw.inj,hw.blk,hw.low,hw.fix,hw.eC,hw.iq⟩
        have yQ:cg P S (KS P S) N p w w' 0 1 {w with drawn:=w.drawn+1} {w' with drawn:=w'.drawn+1}:=
         ⟨by rw[bq];exact pR,rfl,rfl,rfl,rfl,rfl,rfl,rfl,rfl,fun _ _ _=>rfl⟩
        refine .inr (.inr ⟨0,1,_,_,#[],#[],yQ,by simp,.inl ⟨_,_,top,cV,?_,rfl,rfl⟩⟩);rw[bq];exact hf.top (fq.wM (.cons (.inRegion _ mF) ht)) ⟨rfl,rfl⟩
      |rangeFunc x ps a c=>
       simp only[codeOk,Bool.and_eq_true]at eP;unfold stepG.exec at hd⊢;simp only[h1,h2]at hd⊢;rw[iw]at hd;have i9:∀a b,¬H f.fn a b:=BS.resolve_left (by simp[cA]);have hz:KS P S (.label (100000+f.fn)):=Fv ((hc.BQ f.fn fq.It).1 i9)
       refine cR.run (SR.enterLoop fq.fn fq.It hz fq.tmps ps eP.1.2 eP.2 fq.round) hw hm (ev:=fun r es=>seen P f.fn es) (J2:=fun r es=>seen (ab P F) f'.fn es) (fun r es e he=>mem_seen he)
        (k:=fun r=>match r with
          |.ok (l,mark) w=>stepG.apply P true {f with todo:=.inRangeFunc l::k,defers:=mark++f.defers} (top++b::bs) none
             (do let d<-resolve (Frame.eval {f with todo:=.inRangeFunc l::k,defers:=mark++f.defers}) {callee:=.value x,args:=#[.const (.func (.yield l) #[] #[])],argTypes:=#[]} 0;invoke d.target d.args) w
          |.halt _ w=>.ended (.stuck "range over a function: no such loop" (f.pos P)) w)
        (k':=fun r=>match r with
          |.ok (l,mark) w=>stepG.apply (ab P F) true {f' with todo:=.inRangeFunc l::k',defers:=mark++f'.defers} (cV++aK) none
             (do let d<-resolve (Frame.eval {f' with todo:=.inRangeFunc l::k',defers:=mark++f'.defers}) {callee:=.value x,args:=#[.const (.func (.yield l) #[] #[])],argTypes:=#[]} 0;invoke d.target d.args) w
          |.halt _ w=>.ended (.stuck "range over a function: no such loop" (f'.pos (ab P F))) w)
        ?_ ?_ ?_ ?_ ?_
       .exact hd
       .intro r;cases r with
        |ok x w1=>exact Nat.le_trans (kF (ab P F) _ w1 #[]) (nj ..)
        |halt=>exact Nat.le_refl _
       .intro x w1 _;exact⟨_,_,_,rfl⟩
       .intro cc n w1 eO y y' nS hy yQ Ai;obtain⟨l,mark⟩:=y;obtain⟨l',oG⟩:=y';have hle:=eD p w.heap.size w'.heap.size cc;have Nq:=(fq.mono hle).mk' (.cons (.lE hy.1 i9) (ht.mono hle)) (hy.2.append (fq.defers.mono hle)) (.inr i9);refine cR.apply hc nS.rel ((hf.mono hle).top Nq ⟨rfl,rfl⟩) yQ ?_ Ai;refine SR.fp hc.kM ?_ ?_
        .exact(Nq.eval (hg.mono hle)).at eP.1.1
        .have:=AR.one (S:=S) (VR.yield (S:=S) hy.1);simpa [Frame.eval]using this
       .intro cc n w1 eO v v' nS hv;exact cR.ended ..
   | @inBlock id=>unfold stepG.exec;simp only[h1,h2];exact tX ht
   | @inScope c eP _=>unfold stepG.exec;simp only[h1,h2];exact tX ht
   | @inLoop c c' Iu=>unfold stepG.exec;simp only[h1,h2];exact tX (.cons (.code Iu) (.cons (.inLoop Iu) ht))
   | @lE l l' hl _=>unfold stepG.exec;simp only[h1,h2];exact cR.ended ..
   | @begin=>
     unfold stepG.exec at hd⊢;simp only[h1,h2]at hd⊢;refine cR.apply hc hw hf hm ?_ hd;rcases Cg fq.round with⟨e1,e2⟩|⟨l,l',e1,e2,hl⟩
     .rw[e1,e2];exact(SR.stuck (α:=Unit) (β:=Unit) (Q:=QE Unit)).ac fun q _ hq=>SR.pure .skip
     .rw[e1,e2];exact(SR.beginRound hl).ac fun q _ hq=>SR.pure .skip
   | @iv l l' hl i9=>
     unfold stepG.exec at hd⊢;simp only[h1,h2]at hd⊢;rw[iw]at hd
     refine cR.run (SR.endLoop hl) hw hm (ev:=fun r es=>seen P f.fn es) (J2:=fun r es=>seen (ab P F) f'.fn es) (fun r es e he=>mem_seen he)
      (k:=fun r=>match r with
        |.ok jump w=>.go {frame:={f with todo:=(jump.map Item.code).toList++k},callers:=top++b::bs,status:=.running,dying:=none} w
        |.halt (.panic v) w=>.go {frame:=f.raise [{v,recovered:=false}],callers:=top++b::bs,status:=.running,dying:=none} w
        |.halt _ w=>.ended (.stuck "range over a function: no such loop" (f.pos P)) w)
      (k':=fun r=>match r with
        |.ok jump w=>.go {frame:={f' with todo:=(jump.map Item.code).toList++k'},callers:=cV++aK,status:=.running,dying:=none} w
        |.halt (.panic v) w=>.go {frame:=f'.raise [{v,recovered:=false}],callers:=cV++aK,status:=.running,dying:=none} w
        |.halt _ w=>.ended (.stuck "range over a function: no such loop" (f'.pos (ab P F))) w)
      hd ?_ ?_ ?_ ?_
     .intro r;cases r with
      |ok x w1=>exact Nat.le_refl _
      |halt x w1=>cases x<;>exact Nat.le_refl _
     .intro x w1 hx;cases x<;>first|exact⟨_,_,_,rfl⟩|exact absurd hx id
     .intro cc n w1 eO y y' nS hy yQ Ai;have hle:=eD p w.heap.size w'.heap.size cc;obtain⟨rfl,hy⟩:=hy;refine cR.go nS.rel ((hf.mono hle).top ((fq.mono hle).wM ?_) ⟨rfl,rfl⟩);cases y with
      |none=>exact ht.mono hle
      |some c=>exact .cons (.code (.same (hy c rfl) (.inr i9))) (ht.mono hle)
     .intro cc n w1 eO v v' nS hv;have hle:=eD p w.heap.size w'.heap.size cc;exact cR.go nS.rel ((hf.mono hle).top ((fq.mono hle).raise (.cons false false hv .nil)) (gM f _))
   | @inRegion ops is mF=>
     cases is with
     |nil=>unfold stepG.exec;simp only[h1,h2];exact tX ht
     |cons i is=>
      unfold stepG.exec at hd⊢;simp only[h1,h2]at hd⊢;have hy:∀j,yielded ops f'.tmps j=yielded ops f.tmps j:=fun j=>(ni ops fq.tmps j).symm;have VT:(yielded ops f'.tmps)=(yielded ops f.tmps):=funext hy;rw[VT]at hd⊢;split at hd
      .rename_i jw;rw[if_pos jw,if_pos jw];have Iv:f.oper?=ops[i]?:=by unfold Frame.oper?;rw[h1]
       have E6:f'.oper?=ops[i]?:=by unfold Frame.oper?;rw[h2]
       unfold stepG.oper at hd⊢;rw[Iv,E6];rw[E6]at hd;cases ho:ops[i]? with
       |none=>exact cR.ended ..
       |some o=>
        rw[ho]at hd
        have J7:jt P S o.op=true:=by
         have h0:=mF o (Array.mem_of_getElem? ho);rw[Bool.or_eq_true]at h0;refine h0.resolve_right fun h3=>i9 nU ⟨nU,o,ops,i,is,_,h2,ho,h3,?_⟩;rw[VT];rw[ho]at jw;simpa using jw
        have Ah:∀c,o.op≠ .defer c:=by
         intro c yU;rw[yU]at J7;simp[jt]at J7
        have key:∀(P:Program) (fr:Frame) (cs:List Frame) (w:World),(match fr.roundOf,o.op with
         |some l,.defer c=>stepG.apply P true fr cs none (do Instr.deferInRound l (<-resolve fr.eval c o.type);pure .skip) w
         |_,_=>stepG.apply P true fr cs none (execOp fr.eval o) w)=stepG.apply P true fr cs none (execOp fr.eval o) w:=by
         intro P fr cs w;split
         .rename_i hx;exact absurd hx (Ah _)
         .rfl
        have RT:(gw (stepG.apply (ab P F) true f' (cV++aK) none (execOp f'.eval o) w')).drawn<=w'.drawn+m:=by
         rw[<-key (ab P F) f' (cV++aK) w'];exact hd
        have e1:=key P f (top++b::bs) w;have e2:=key (ab P F) f' (cV++aK) w';refine Eq.mpr (congr (congrArg (cR P S H N p w w' b bs aK) e1) e2) ?_;exact cR.apply hc hw hf hm (SR.execOp hc.fO hc.db hc.kM aZ o J7) RT
      .rename_i jw;rw[if_neg jw,if_neg jw];exact cR.go hw (hf.top (fq.finish VR.undef) (dc f _))
end
section
variable {P:Program} {F:Array Func} {S:Nat->Bool} {H:FuncId->Code->Code->Prop} {N:Nat} {p:Pi} {w w':World} {b:Frame} {bs:List Frame} {aK:List Frame}
theorem lG {H:Code->Code->Prop} (h:TL P S H p l l'):∀d x r s k,l≠ .call d x r s::k/\l'≠ .call d x r s::k:=by
 intro d x r s k;cases h with
 |nil=>exact⟨by simp,by simp⟩
 |cons hi ht=>cases hi<;>exact⟨by simp,by simp⟩
theorem kN (h:∀d x r s k,f.todo≠ .call d x r s::k):f.catches P=false:=by
 unfold Frame.catches;split
 .rename_i hh;exact absurd hh (h _ _ _ _ _)
 .rfl
theorem cR.unwind (hc:Closed P F S H) (hw:WR P S (KS P S) N p w w') {top:List Frame} (hf:FL P S H p (f::top) (f'::cV)) (main main':Bool) (hb:J5 P S main' aK)
 (hm:i7 m w w') (hd:(gw (Go.unwind (ab P F) main' f' (cV++aK) none w')).drawn<=w'.drawn+m):
 cR P S H N p w w' b bs aK (Go.unwind P main f (top++b::bs) none w) (Go.unwind (ab P F) main' f' (cV++aK) none w'):=by
 have fq:=hf.head;have BT:=fq.defers;generalize h1:f.defers=t at BT;generalize h2:f'.defers=t' at BT;unfold Go.unwind at hd⊢;rw[h1,h2];rw[h2]at hd;cases BT with
 | @cons r r' l l' hr hl=>
   simp only[iw]at hd⊢
   refine cR.run (SR.takeDeferred hr) hw hm (ev:=fun r es=>seen P f.fn es) (J2:=fun r es=>seen (ab P F) f'.fn es) (fun r es e he=>mem_seen he)
    (k:=fun r=>match r with|.ok calls w=>.go {frame:={f with defers:=calls++l},callers:=top++b::bs,status:=.running,dying:=none} w|.halt _ w=>.ended (.stuck "the deferred calls of a range-over-func loop have been taken" (f.pos P)) w)
    (k':=fun r=>match r with|.ok calls w=>.go {frame:={f' with defers:=calls++l'},callers:=cV++aK,status:=.running,dying:=none} w|.halt _ w=>.ended (.stuck "the deferred calls of a range-over-func loop have been taken" (f'.pos (ab P F))) w)
    hd ?_ ?_ ?_ ?_
   .intro r;cases r<;>exact Nat.le_refl _
   .intro x w1 _;exact⟨_,_,_,rfl⟩
   .intro c n w1 eO y y' nS hy _ _;obtain⟨rfl,rfl⟩:=hy;have hle:=eD p w.heap.size w'.heap.size c;exact cR.go nS.rel ((hf.mono hle).top ((fq.mono hle).mk' (fq.todo.mono hle) (hl.mono hle) (.inr (fq.nd.resolve_left fun x=>by rw[h1]at x;cases x.1))) ⟨rfl,rfl⟩)
   .intro c n w1 eO v v' nS hv;exact cR.ended ..
 |nil=>
  simp only at hd⊢;have nU:=fq.mode;generalize g1:f.mode=o at nU;generalize g2:f'.mode=o' at nU;rw[g2]at hd;cases nU with
  |run=>exact cR.ended ..
  | @panicking l l' hl=>
    simp only;have n1:=kN (P:=P) (f:=f) fun d x r s k=>(lG fq.todo d x r s k).1;have n2:=kN (P:=ab P F) (f:=f') fun d x r s k=>(lG fq.todo d x r s k).2;simp only[n1,n2,Bool.false_eq_true,if_false];cases hf with
    |one h r=>exact cR.raised hl ..
    |cons h t=>
     cases t with
     |one h r=>exact cR.go hw (.one (h.raise hl) ⟨(gM _ _).1.trans r.1,by rw[(gM _ _).2];exact r.2⟩)
     |cons h t=>exact cR.go hw (.cons (h.raise hl) t)
  |returning=>
   simp only at hd⊢;rw[<-fq.fn]at hd⊢;rcases hc.body f.fn fq.It with⟨e1,e2⟩|⟨fn,gJ,_,_,e1,e2,_,_,_,_,_,_,e3⟩
   .rw[e1,e2];exact cR.doReturn hw hf main main' hb (fq.tmps.getD 0 VR.undef)
   .rw[e1,e2];rw[e2]at hd;simp only[iw]at hd⊢
    refine cR.run (SR.results e3 fq.tmps) hw hm (ev:=fun r es=>seen P f.fn es) (J2:=fun r es=>seen (ab P F) f.fn es) (fun r es e he=>mem_seen he)
     (k:=fun r=>match r with|.ok v w=>Go.doReturn P main f (top++b::bs) none v w|.halt (.stuck s) w=>.ended (.stuck s (f.pos P)) w|.halt _ w=>.ended (.stuck "return: the result variables cannot be read" (f.pos P)) w)
     (k':=fun r=>match r with|.ok v w=>Go.doReturn (ab P F) main' f' (cV++aK) none v w|.halt (.stuck s) w=>.ended (.stuck s (f'.pos (ab P F))) w|.halt _ w=>.ended (.stuck "return: the result variables cannot be read" (f'.pos (ab P F))) w)
     hd ?_ ?_ ?_ ?_
    .intro r;cases r with
     |ok v w=>simp only;rw[jv _ _ _ fq.i6];exact Nat.le_refl _
     |halt x=>cases x<;>exact Nat.le_refl _
    .intro x w1 hx;cases x<;>exact⟨_,_,_,rfl⟩
    .intro c n w1 eO x y nS hv _ _;exact cR.doReturn nS.rel (hf.mono (eD _ _ _ _)) main main' hb hv
    .intro c n w1 eO v v' nS hv;exact cR.ended ..
theorem cR.step (hc:Closed P F S H) (hw:WR P S (KS P S) N p w w') (hg:gp P S p) {top:List Frame} (hf:FL P S H p (f::top) (f'::cV)) (J6:∀c c' k k',f.mode=.run->f.todo=.code c::k->f'.todo=.code c'::k'->¬H f.fn c c') (i9:¬mG S f') (main main':Bool) (hb:J5 P S main' aK)
 (hm:i7 m w w') (hd:(gw (stepG (ab P F) main' {frame:=f',callers:=cV++aK,status:=.running,dying:=none} w')).drawn<=w'.drawn+m):
 cR P S H N p w w' b bs aK (stepG P main {frame:=f,callers:=top++b::bs,status:=.running,dying:=none} w)
  (stepG (ab P F) main' {frame:=f',callers:=cV++aK,status:=.running,dying:=none} w'):=by
 have nU:=hf.head.mode
 have aY:∀(P:Program) (main:Bool) (f:Frame) (cs:List Frame) (w:World),f.mode=.run->stepG P main {frame:=f,callers:=cs,status:=.running,dying:=none} w=stepG.exec P main true f cs none w:=by
  intro P main f cs w h;unfold stepG;simp only[h]
 have J8:∀(P:Program) (main:Bool) (f:Frame) (cs:List Frame) (w:World),f.mode≠ .run->stepG P main {frame:=f,callers:=cs,status:=.running,dying:=none} w=Go.unwind P main f cs none w:=by
  intro P main f cs w h;unfold stepG;simp only
 by_cases h:f.mode=.run
 .have h':f'.mode=.run:=by
   rw[h]at nU;generalize f'.mode=o at nU;cases nU;rfl
  rw[aY _ _ _ _ _ h']at hd;rw[aY _ _ _ _ _ h,aY _ _ _ _ _ h'];exact cR.exec hc hw hg hf (fun c c' k k'=>J6 c c' k k' h) (fun _=>i9) h' main main' hb hm hd
 .have h':f'.mode≠ .run:=by
   intro e;rw[e]at nU;generalize hx:f.mode=o at nU;cases nU;exact h hx
  rw[J8 _ _ _ _ _ h']at hd;rw[J8 _ _ _ _ _ h,J8 _ _ _ _ _ h'];exact cR.unwind hc hw hf main main' hb hm hd
end
def new (w w1:World):Nat->Prop:=fun r=>w.heap.size<=r/\r<w1.heap.size
def au (kn:Nat->Prop) (w w1:World):Nat->Prop:=fun r=>kn r\/new w w1 r
structure Env (kn:Nat->Prop) (w w2:World):Prop where
 size:w.heap.size<=w2.heap.size
 same:∀r,kn r->w2.heap[r]?=w.heap[r]?
 os:w2.os=w.os
 out:w2.output=w.output
theorem Env.refl (kn:Nat->Prop) (w:World):Env kn w w:=⟨Nat.le_refl _,fun _ _=>rfl,rfl,rfl⟩
theorem Env.trans {w:World} (h:Env kn w w1) (k:Env kn w1 w2):Env kn w w2:=
 ⟨Nat.le_trans h.1 k.1,fun r hr=>(k.2 r hr).trans (h.2 r hr),k.os.trans h.os,k.out.trans h.out⟩
def yV (kn own:Nat->Prop) (e:Event):Prop:=
 e=noRoomEvent\/(e.sync=false/\∃r,kn r/\((∃a:Addr,e.loc=.cell a/\a.block=r)\/e.loc=.obj r)/\(e.write=true->own r))
structure Fair (kn own:Nat->Prop) (w w1:World) (es:Array Event):Prop where
 size:w.heap.size<=w1.heap.size
 others:∀r,r<w.heap.size->¬own r->w1.heap[r]?=w.heap[r]?
 os:w1.os=w.os
 out:w1.output=w.output
 tape:w1.tape=w.tape
 drawn:w.drawn<=w1.drawn
 ev:∀e∈es,yV (au kn w w1) (au own w w1) e
abbrev fV (f:Frame) (cs:List Frame):Goroutine:={frame:=f,callers:=cs,status:=.running,dying:=none}
abbrev lH:=(Nat->Prop)->(Nat->Prop)->Value->World->Prop
abbrev ji:=(Nat->Prop)->(Nat->Prop)->Frame->World->Prop
abbrev dd:=(Nat->Prop)->(Nat->Prop)->Frame->World->Value->World->(Nat->Prop)->(Nat->Prop)->Prop
abbrev Mq:=(Nat->Prop)->(Nat->Prop)->Frame->List Frame->World->Prop
def Body (Q:Program) (main:Bool) (base:List Frame) (Fin:lH) (HA:ji) (HP:dd) (I:Mq):Mq:=fun kn own f top w=>
 ∀w2,Env kn w w2->
  (∃w3 es f2 lI,stepG Q main (fV f (top++base)) w2=.go (fV f2 (lI++base)) w3 es/\Fair kn own w2 w3 es/\I (au kn w2 w3) (au own w2 w3) f2 lI w3)\/
  (∃w3 es v b bs,base=b::bs/\stepG Q main (fV f (top++base)) w2=.go (fV (b.finish v) bs) w3 es/\Fair kn own w2 w3 es/\Fin (au kn w2 w3) (au own w2 w3) v w3)\/
  (∃w3 es v,base=[]/\stepG Q main (fV f (top++base)) w2=.ended (.done v) w3 es/\Fair kn own w2 w3 es/\Fin (au kn w2 w3) (au own w2 w3) v w3)\/
  (HA kn own f w2/\∃c rest,top=c::rest/\∀v w3 dH bk,HP kn own f w2 v w3 dH bk->I dH bk (c.finish v) rest w3)
def CT (Q:Program) (main:Bool) (base:List Frame) (Fin:lH) (HA:ji) (HP:dd):Mq:=fun kn own f top w=>
 ∀I:Mq,(∀kn own f top w,Body Q main base Fin HA HP I kn own f top w->I kn own f top w)->I kn own f top w
section
variable {Q:Program} {main:Bool} {base:List Frame} {Fin:lH} {HA:ji} {HP:dd}
theorem Body.mono {I J:Mq} (h:∀kn own f top w,I kn own f top w->J kn own f top w) {top:List Frame} {w:World} (x:Body Q main base Fin HA HP I kn own f top w):Body Q main base Fin HA HP J kn own f top w:=by
 intro w2 he;rcases x w2 he with⟨w3,es,f2,lI,h1,h2,h3⟩|x|x|⟨h1,c,rest,hc,h2⟩
 .exact .inl ⟨w3,es,f2,lI,h1,h2,h _ _ _ _ _ h3⟩
 .exact .inr (.inl x)
 .exact .inr (.inr (.inl x))
 .exact .inr (.inr (.inr ⟨h1,c,rest,hc,fun v w3 dH bk hp=>h _ _ _ _ _ (h2 v w3 dH bk hp)⟩))
theorem CT.mk {kn own:Nat->Prop} {f:Frame} {top:List Frame} {w:World} (h:Body Q main base Fin HA HP (CT Q main base Fin HA HP) kn own f top w):CT Q main base Fin HA HP kn own f top w:=
 fun I hI=>hI _ _ _ _ _ (h.mono fun _ _ _ _ _ x=>x I hI)
theorem CT.ind {I:Mq} (hI:∀kn own f top w,Body Q main base Fin HA HP (fun kn own f top w=>I kn own f top w/\CT Q main base Fin HA HP kn own f top w) kn own f top w->I kn own f top w)
 {top:List Frame} {w:World} (h:CT Q main base Fin HA HP kn own f top w):I kn own f top w:=
 (h (fun kn own f top w=>I kn own f top w/\CT Q main base Fin HA HP kn own f top w) fun _ _ _ _ _ x=>⟨hI _ _ _ _ _ x,CT.mk (x.mono fun _ _ _ _ _ y=>y.2)⟩).1
end
def iy (p:Pi):Nat->Prop:=fun r'=>∃r,p r r'
def bM (N:Nat) (p:Pi):Nat->Prop:=fun r'=>∃r,p r r'/\N<=r
theorem Fw (p:Pi) (L C c:Nat):iy (ext p L C c)=fun r'=>iy p r'\/(C<=r'/\r'<C+c):=by
 funext r';apply propext;constructor
 .rintro⟨r,h|⟨k,hk,h1,h2⟩⟩
  .exact .inl ⟨r,h⟩
  .exact .inr ⟨by omega,by omega⟩
 .rintro(⟨r,h⟩|⟨h1,h2⟩)
  .exact⟨r,.inl h⟩
  .exact⟨L+(r'-C),.inr ⟨r'-C,by omega,rfl,by omega⟩⟩
theorem Aj {N:Nat} (p:Pi) {L:Nat} (hN:N<=L) (C c:Nat):bM N (ext p L C c)=fun r'=>bM N p r'\/(C<=r'/\r'<C+c):=by
 funext r';apply propext;constructor
 .rintro⟨r,h|⟨k,hk,h1,h2⟩,hr⟩
  .exact .inl ⟨r,h,hr⟩
  .exact .inr ⟨by omega,by omega⟩
 .rintro(⟨r,h,hr⟩|⟨h1,h2⟩)
  .exact⟨r,.inl h,hr⟩
  .exact⟨L+(r'-C),.inr ⟨r'-C,by omega,rfl,by omega⟩,by omega⟩
section
variable {P:Program} {S:Nat->Bool} {N:Nat} {p:Pi}
theorem WR.env {w:World} (h:WR P S (KS P S) N p lw w) (he:Env (iy p) w w2):WR P S (KS P S) N p lw w2:=
 ⟨h.inj,fun r r' hr=>by
   obtain⟨o,o',h1,h2,h3⟩:=h.blk r r' hr;exact⟨o,o',h1,(he.2 r' ⟨r,hr⟩).trans h2,h3⟩,h.low,h.fix,h.eC,Nat.le_trans h.iq he.1⟩
theorem WR.tape {w:World} (h:WR P S (KS P S) N p lw w) (T:Nat->Question->Nat) (d:Nat):WR P S (KS P S) N p {lw with tape:=T,drawn:=d} w:=
 ⟨h.inj,h.blk,h.low,h.fix,h.eC,h.iq⟩
theorem cg.fair {w Qo:World} {c:Nat} (hw:WR P S (KS P S) N p lw w) (h:cg P S (KS P S) N p lw w c n Qo w1) {es:Array Event} (he:∀e∈es,E0 N (ext p lw.heap.size w.heap.size c) e):
 Fair (iy p) (bM N p) w w1 es/\iy (ext p lw.heap.size w.heap.size c)=au (iy p) w w1/\bM N (ext p lw.heap.size w.heap.size c)=au (bM N p) w w1:=by
 have e1:iy (ext p lw.heap.size w.heap.size c)=au (iy p) w w1:=by
  rw[Fw];unfold au new;rw[h.jp]
 have e2:bM N (ext p lw.heap.size w.heap.size c)=au (bM N p) w w1:=by
  rw[Aj p hw.low];unfold au new;rw[h.jp]
 refine⟨⟨by rw[h.jp];omega,fun r hr hn=>h.others r hr fun s hs=>?_,h.RK,h.JP,h.yP,by rw[h.jq];omega,fun e hx=>?_⟩,e1,e2⟩
 .rcases Nat.lt_or_ge s N with ap|ui
  .exact ap
  .exact absurd ⟨s,hs,ui⟩ hn
 .rw[<-e1,<-e2];rcases he e hx with h0|⟨h1,r,r',h2,h3,h4⟩
  .exact .inl h0
  .exact .inr ⟨h1,r',⟨r,h2⟩,h3,fun Ch=>⟨r,h2,h4 Ch⟩⟩
end
def Base (P:Program):Frame:={fn:=P.funcs.size,tmps:=#[],todo:=[.extern "" #[],.code (.refuse "")],defers:=[⟨.nil,#[]⟩],mode:=.run,kind:=.normal}
theorem cY (P:Program) (v:Value):(Base P).finish v={fn:=P.funcs.size,tmps:=#[v],todo:=[.code (.refuse "")],defers:=[⟨.nil,#[]⟩],mode:=.run,kind:=.normal}:=rfl
theorem eS (P:Program) (v:Value) (w:World):∃o w1,step P (lone ((Base P).finish v) [] w)=.ended o w1:=⟨_,_,step_lone_ended (by rw[cY];rfl)⟩
theorem dX (P:Program) (ch:List PanicEntry) (w:World):∃o w1,step P (lone ((Base P).raise ch) [] w)=.ended o w1:=⟨_,_,step_lone_ended (by rfl)⟩
theorem dQ {cs ds:List Frame} {w:World} (h:lone f cs w=lone g ds v):f=g/\cs=ds/\w=v:=by
 have h1:(lone f cs w).gs[0]! =(lone g ds v).gs[0]!:=by rw[h]
 have h2:(lone f cs w).world=(lone g ds v).world:=by rw[h]
 have h3:(fV f cs)=(fV g ds):=h1;simp only[Goroutine.mk.injEq]at h3;exact⟨h3.1,h3.2.1,h2⟩
def Alike (w w':World):Prop:=∀r:Nat,w'.heap[r]?=w.heap[r]? \/((∃d,w.heap[r]?=some (Obj.deferred d))/\∃d,w'.heap[r]?=some (Obj.deferred d))
theorem Alike.refl (w:World):Alike w w:=fun _=>.inl rfl
theorem Alike.trans {a b c:World} (h:Alike a b) (k:Alike b c):Alike a c:=fun r=>by
 rcases k r with k|⟨⟨d,k1⟩,k2⟩
 .rcases h r with h|⟨h1,d,h2⟩
  .exact .inl (k.trans h)
  .exact .inr ⟨h1,d,k.trans h2⟩
 .rcases h r with h|⟨h1,_⟩
  .exact .inr ⟨⟨d,h▸k1⟩,k2⟩
  .exact .inr ⟨h1,k2⟩
theorem oH (P:Program) (n:Nat) (m m1:Machine) (h:runN P n m=.next m1):runN P (n+1) m=step P m1:=by
 rw[runN_add,h];simp only[runN];split<;>simp_all
section
variable {P:Program} {S:Nat->Bool} {H:FuncId->Code->Code->Prop} {N:Nat} {p:Pi}
def FD (P:Program) (S:Nat->Bool) (H:FuncId->Code->Code->Prop) (p:Pi) (g:Frame):Prop:=(∃d,DL p g.defers d)/\∀d x r s k,g.todo≠ .call d x r s::k
theorem FL.fd {l l':List Frame} (h:FL P S H p l l'):∀g∈l,FD P S H p g:=by
 induction h with
 |one h r=>intro g hg;obtain rfl:g=_:=by simpa using hg
           exact⟨⟨_,h.defers⟩,fun d x r s k=>(lG h.todo d x r s k).1⟩
 |cons h t ih=>
  intro g hg;rcases List.mem_cons.1 hg with rfl|hg
  .exact⟨⟨_,h.defers⟩,fun d x r s k=>(lG h.todo d x r s k).1⟩
  .exact ih g hg
theorem sk (g:Frame) (ch:List PanicEntry):(g.raise ch).defers=g.defers/\(g.raise ch).todo=g.todo:=by
 unfold Frame.raise;split<;>exact⟨rfl,rfl⟩
theorem raise_mode (g:Frame) {ch:List PanicEntry} {e:PanicEntry} (h:ch.head?=some e):∃yW,(g.raise ch).mode=.panicking yW/\yW.head?=some e:=by
 unfold Frame.raise;split
 .refine⟨_,rfl,?_⟩;cases ch with
  |nil=>cases h
  |cons x l=>exact h
 .exact⟨_,rfl,h⟩
theorem oI:∀(n:Nat) (h:Frame) (hs:List Frame) (v w2:World) (ch:List PanicEntry) (e0:PanicEntry),h.mode=.panicking ch->ch.head?=some e0->FD P S H p h->(∀g∈hs,FD P S H p g)->
 WR P S (KS P S) N p v w2->∀(fr:Frame) (w1:World),runN P n (lone h (hs++[Base P]) v)=.next (lone fr [Base P] w1)->
 ((∃x,fr.leaving P w1 (.returned x))\/∃yW,fr.leaving P w1 (.panicked yW))->∃yW,fr.mode=.panicking yW/\yW.head?=some e0/\Alike v w1:=by
 intro n;induction n with
 |zero=>
  intro h hs v w2 ch e0 hm he hd BT hw fr w1 hr hl;simp only[runN,Stepped.next.injEq]at hr;obtain⟨rfl,_,rfl⟩:=dQ hr;exact⟨ch,hm,he,Alike.refl _⟩
 |succ n ih=>
  intro h hs v w2 ch e0 hm he hd BT hw fr w1 hr hl;obtain⟨⟨d',VU⟩,Ak⟩:=hd
  have bH:stepG P true {frame:=h,callers:=hs++[Base P],status:=.running,dying:=none} v=Go.unwind P true h (hs++[Base P]) none v:=by
   unfold stepG;simp only[hm]
  generalize hdd:h.defers=ds at VU;cases VU with
  | @cons r r' l l' hrr Qp=>
    obtain⟨o,o',ho,Iw,hc⟩:=hw.blk r r' hrr
    have oJ:(∃x,(Instr.takeDeferred r).run P v=.halt x v)->False:=by
     rintro⟨x,hx⟩
     have:step P (lone h (hs++[Base P]) v)=.ended _ _:=step_lone_ended (by
      rw[bH];unfold Go.unwind;simp only[hdd,Sem.runT_eq,hx,GStep.bare_after];rfl)
     simp only[runN,this]at hr;cases hr
    have Ci:(∀d,o≠ .deferred (some d))->False:=fun hn=>oJ (by
     simp only[Instr.takeDeferred,getObj,bind,Sem.bind,Sem.run,ho];cases o<;>first|exact⟨_,rfl⟩|(rename_i d;cases d<;>first|exact⟨_,rfl⟩|exact absurd rfl (hn _)))
    rcases hc with⟨_,c,c',el,fz,rfl,rfl,_⟩|⟨hN,nL⟩
    .exact(Ci fun d h=>by cases h).elim
    .cases nL with
     |cb=>
      have aY:(Instr.takeDeferred r).run P v=.ok [] {v with heap:=v.heap.setIfInBounds r (.deferred none)}:=by
       simp[Instr.takeDeferred,getObj,setObj,bind,Sem.bind,Sem.run,ho,pure]
      have bF:step P (lone h (hs++[Base P]) v)=.next (lone {h with defers:=[]++l} (hs++[Base P]) {v with heap:=v.heap.setIfInBounds r (.deferred none)}):=step_lone_go (by
       rw[bH];unfold Go.unwind;simp only[hdd,Sem.runT_eq,aY,GStep.bare_after];rfl)
      simp only[runN,bF]at hr;obtain⟨yW,k1,k2,k3⟩:=ih {h with defers:=[]++l} hs _ {w2 with heap:=w2.heap.setIfInBounds r' (.deferred none)} ch e0 hm he ⟨⟨_,Qp⟩,Ak⟩ BT (hw.setObj hrr .ca hN) fr w1 hr hl;refine⟨yW,k1,k2,Alike.trans (fun s=>?_) k3⟩;by_cases hs:r=s
      .subst hs;have ap:=(Array.getElem?_eq_some_iff.1 ho).1;exact .inr ⟨⟨_,ho⟩,none,by simp[ap]⟩
      .exact .inl (by simp[hs])
     |_=>exact(Ci fun d h=>by cases h).elim
  |nil=>
   have Nr:h.catches P=false:=kN Ak;cases hs with
   |nil=>
    exfalso
    have bF:step P (lone h ([]++[Base P]) v)=.next (lone ((Base P).raise ch) [] v):=step_lone_go (by
     rw[bH];unfold Go.unwind;simp only[hdd,hm,Nr,Bool.false_eq_true,if_false];rfl)
    simp only[runN,bF]at hr;obtain⟨o,w5,Qq⟩:=dX P ch v;cases n with
    |zero=>
     simp only[runN,Stepped.next.injEq]at hr;have:=(dQ hr).2.1;simp at this
    |succ n=>simp only[runN,Qq]at hr;cases hr
   |cons g2 nk=>
    have bF:step P (lone h (g2::nk++[Base P]) v)=.next (lone (g2.raise ch) (nk++[Base P]) v):=step_lone_go (by
     rw[bH];unfold Go.unwind;simp only[hdd,hm,Nr,Bool.false_eq_true,if_false];rfl)
    simp only[runN,bF]at hr;obtain⟨Yp,m1,m2⟩:=raise_mode g2 he;obtain⟨RT,Yq⟩:=BT g2 (by simp);have Ns:=sk g2 ch;exact ih (g2.raise ch) nk v w2 Yp e0 m1 m2 ⟨by rw[Ns.1];exact RT,by rw[Ns.2];exact Yq⟩ (fun g hg=>BT g (by simp[hg])) hw fr w1 hr hl
end
def Qr (P:Program) (lf:Frame) (oK:List Frame) (lw:World) (R:Value->World->Prop) (C:Value->World->Prop):Prop:=
 ∀T,∃n fr w1,runN P n (lone lf (oK++[Base P]) {lw with tape:=T})=.next (lone fr [Base P] w1)/\
  ((∃v,fr.leaving P w1 (.returned v)/\R v w1)\/(∃e ch,fr.leaving P w1 (.panicked (e::ch))/\C e.v w1/\∀(S:Nat->Bool) (q:Pi) v',S (P.funcs.size+P.globals.size)=false->¬VR S q e.v v'))
def oL (P:Program) (S:Nat->Bool) (N:Nat) (p:Pi) (R:Value->World->Prop) (kn own:Nat->Prop) (v':Value) (w':World):Prop:=
 ∃q v w1,R v w1/\VR S q v v'/\WR P S (KS P S) N q w1 w'/\Le p q/\kn=iy q/\own=bM N q
def eT (m:Nat->Nat) (d:Nat):Nat->Nat
 |0=>d
 |k+1=>eT m d k+m k
theorem mH (m:Nat->Nat) (d:Nat) {k j:Nat} (h:k<=j):eT m d k<=eT m d j:=by
 induction h with
 |refl=>exact Nat.le_refl _
 |step _ ih=>simp only[eT];omega
open Classical in
theorem splice {α:Type} [Inhabited α] (m:Nat->Nat) (a:Nat->Nat->α) (d:Nat):∃T:Nat->α,∀k j,j<m k->T (eT m d k+j)=a k j:=by
 refine⟨fun i=>if h:∃k,eT m d k<=i/\i<eT m d (k+1)then a h.choose (i-eT m d h.choose)else default,fun k j hj=>?_⟩;have h:∃k',eT m d k'<=eT m d k+j/\eT m d k+j<eT m d (k'+1):=⟨k,by omega,by simp only[eT];omega⟩
 simp only[dif_pos h];obtain⟨c,hc,eQ⟩:∃c,(eT m d c<=eT m d k+j/\eT m d k+j<eT m d (c+1))/\h.choose=c:=⟨h.choose,h.choose_spec,rfl⟩
 rw[eQ]
 have e:c=k:=by
  rcases Nat.lt_trichotomy c k with ap|heq|uu
  .have:=mH m d (show c+1<=k by omega);omega
  .exact heq
  .have:=mH m d (show k+1<=c by omega);simp only[eT]at this;omega
 subst e;congr 1;omega
def E7 (H:FuncId->Code->Code->Prop) (lf f:Frame):Prop:=lf.mode=.run/\f.mode=.run/\∃c c' k k',lf.todo=.code c::k/\f.todo=.code c'::k'/\H f.fn c c'
def Cj (H:FuncId->Code->Code->Prop) (f:Frame):Prop:=f.mode=.run/\∃c c' k',f.todo=.code c'::k'/\H f.fn c c'
structure oM (P:Program) (S:Nat->Bool) (H:FuncId->Code->Code->Prop) (N:Nat) (HA:ji) (HP:dd) (C:Value->World->Prop)where
 a0:Question->Nat
 m1:Nat
 Qs:Value->World->Nat->Question->Nat
 ln:Nat
 q3:Pi->Nat->Frame->World->Value->World->Pi
 val:Frame->Value
 only:∀fn c c' c0,H fn c c'->CR P S (H fn) c0 c'->H fn c0 c'\/∃w,c0=.refuse w
 marked:S (P.funcs.size+P.globals.size)=false
 bare:∀o,eH S o=false
 wQ:∀v w w',Alike w w'->C v w'->C v w
 check:∀p lf f v cs,jh P S H p lf f->E7 H lf f->(∀q,v.tape v.drawn q=a0 q)->∃n g1 v1 e,runN P n (lone lf cs v)=.next (lone g1 cs v1)/\g1.mode=.panicking [e]/\e.v=val lf/\
  FD P S H p g1/\v1.heap=v.heap
 ha:∀p lf f v w2,jh P S H p lf f->E7 H lf f->WR P S (KS P S) N p v w2->C (val lf) v->HA (iy p) (bM N p) f w2
 pass:∀p lf f v w2 lc cs u' w3 dH bk,jh P S H p lf f->E7 H lf f->WR P S (KS P S) N p v w2->HP (iy p) (bM N p) f w2 u' w3 dH bk->(∀i,i<m1->∀q,v.tape (v.drawn+i) q=Qs u' w3 i q)->
  ∃n u v1,1<=n/\runN P n (lone lf (lc::cs) v)=.next (lone (lc.finish u) cs v1)/\VR S (q3 p v.heap.size f w2 u' w3) u u'/\WR P S (KS P S) N (q3 p v.heap.size f w2 u' w3) v1 w3/\
   Le p (q3 p v.heap.size f w2 u' w3)/\dH=iy (q3 p v.heap.size f w2 u' w3)/\bk=bM N (q3 p v.heap.size f w2 u' w3)/\v1.tape=v.tape/\v1.drawn=v.drawn+m1/\v1.heap.size=v.heap.size+ln
structure Nd where
 p:Pi
 L:Nat
 f:Frame
 top:List Frame
 w:World
section
variable (Q:Program) (S:Nat->Bool) (H:FuncId->Code->Code->Prop) (N:Nat) (main:Bool) (base:List Frame) (Fin:lH) (HA:ji) (HP:dd)
def Nd.ct (x:Nd):Prop:=CT Q main base Fin HA HP (iy x.p) (bM N x.p) x.f x.top x.w
def Nd.step (x:Nd) (w2:World):GStep:=stepG Q main (fV x.f (x.top++base)) w2
def Nd.bad (x:Nd) (w2:World):Prop:=
 Env (iy x.p) x.w w2/\
 ¬((∃w3 es f2 lI,x.step Q main base w2=.go (fV f2 (lI++base)) w3 es/\Fair (iy x.p) (bM N x.p) w2 w3 es/\CT Q main base Fin HA HP (au (iy x.p) w2 w3) (au (bM N x.p) w2 w3) f2 lI w3)\/
  (∃w3 es v b bs,base=b::bs/\x.step Q main base w2=.go (fV (b.finish v) bs) w3 es/\Fair (iy x.p) (bM N x.p) w2 w3 es/\Fin (au (iy x.p) w2 w3) (au (bM N x.p) w2 w3) v w3)\/
  (∃w3 es v,base=[]/\x.step Q main base w2=.ended (.done v) w3 es/\Fair (iy x.p) (bM N x.p) w2 w3 es/\Fin (au (iy x.p) w2 w3) (au (bM N x.p) w2 w3) v w3)\/
  (HA (iy x.p) (bM N x.p) x.f w2/\∃c rest,x.top=c::rest/\∀v w3 dH bk,HP (iy x.p) (bM N x.p) x.f w2 v w3 dH bk->CT Q main base Fin HA HP dH bk (c.finish v) rest w3))
theorem Nd.J9 (x:Nd) (h:¬x.ct Q N main base Fin HA HP):∃w2,x.bad Q N main base Fin HA HP w2:=by
 refine Classical.byContradiction fun hn=>h (CT.mk fun w2 he=>?_);exact Classical.byContradiction fun hx=>hn ⟨w2,he,hx⟩
def Nd.out (x:Nd) (w2:World) (o:Value×World):Prop:=
 ∃c rest dH bk,x.top=c::rest/\HP (iy x.p) (bM N x.p) x.f w2 o.1 o.2 dH bk/\¬CT Q main base Fin HA HP dH bk (c.finish o.1) rest o.2
open Classical in
noncomputable def Nd.pick (x:Nd):World:=if h:∃w2,x.bad Q N main base Fin HA HP w2 then h.choose else x.w
theorem Nd.qw (x:Nd) (h:¬x.ct Q N main base Fin HA HP):x.bad Q N main base Fin HA HP (x.pick Q N main base Fin HA HP):=by
 have:=x.J9 Q N main base Fin HA HP h;unfold Nd.pick;rw[dif_pos this];exact this.choose_spec
open Classical in
noncomputable def Nd.dY (x:Nd):Value×World:=
 if h:∃o,x.out Q N main base Fin HA HP (x.pick Q N main base Fin HA HP) o then h.choose else(undef,x.w)
theorem Nd.sn (x:Nd) (h:∃o,x.out Q N main base Fin HA HP (x.pick Q N main base Fin HA HP) o):x.out Q N main base Fin HA HP (x.pick Q N main base Fin HA HP) (x.dY Q N main base Fin HA HP):=by
 unfold Nd.dY;rw[dif_pos h];exact h.choose_spec
end
section
variable {P:Program} (Q:Program) {S:Nat->Bool} {H:FuncId->Code->Code->Prop} {N:Nat} (main:Bool) (base:List Frame) (Fin:lH) {HA:ji} {HP:dd} {C:Value->World->Prop} (hl:oM P S H N HA HP C)
open Classical in
noncomputable def Nd.nx (x:Nd):Nd:=
 if Cj H x.f then
  match x.top with
  |c::rest=>⟨hl.q3 x.p x.L x.f (x.pick Q N main base Fin HA HP) (x.dY Q N main base Fin HA HP).1 (x.dY Q N main base Fin HA HP).2,x.L+hl.ln,c.finish (x.dY Q N main base Fin HA HP).1,rest,(x.dY Q N main base Fin HA HP).2⟩
  | []=>x
 else match x.step Q main base (x.pick Q N main base Fin HA HP)with
 |.go g w3 _=>⟨ext x.p x.L (x.pick Q N main base Fin HA HP).heap.size (w3.heap.size-(x.pick Q N main base Fin HA HP).heap.size),x.L+(w3.heap.size-(x.pick Q N main base Fin HA HP).heap.size),
    g.frame,g.callers.take (g.callers.length-base.length),w3⟩
 |_=>x
noncomputable def Nd.path (x:Nd):Nat->Nd
 |0=>x
 |k+1=>(Nd.path x k).nx Q main base Fin hl
open Classical in
noncomputable def Nd.cnt (x:Nd):Nat:=
 if Cj H x.f then hl.m1 else(gw (x.step Q main base (x.pick Q N main base Fin HA HP))).drawn-(x.pick Q N main base Fin HA HP).drawn
open Classical in
noncomputable def Nd.piece (x:Nd) (i:Nat):Question->Nat:=
 if Cj H x.f then hl.Qs (x.dY Q N main base Fin HA HP).1 (x.dY Q N main base Fin HA HP).2 i else(x.pick Q N main base Fin HA HP).tape ((x.pick Q N main base Fin HA HP).drawn+i)
end
instance : Inhabited (Question -> Nat) := ⟨fun _ => 0⟩
def Ends (P:Program) (fr:Frame) (w1:World):Prop:=(∃v,fr.leaving P w1 (.returned v))\/∃ch,fr.leaving P w1 (.panicked ch)
theorem Ends.after {P:Program} (h:Ends P fr w1):∃b,step P (lone fr [Base P] w1)=.next (lone b [] w1)/\∃o w2,step P (lone b [] w1)=.ended o w2:=by
 rcases h with⟨v,h⟩|⟨ch,h⟩
 .exact⟨_,step_leave_returned h,eS P v w1⟩
 .exact⟨_,step_leave_panicked h,dX P ch w1⟩
theorem before {P:Program} {m0:Machine} (h:runN P n m0=.next (lone fr [Base P] w1)) (he:Ends P fr w1) {ν:Nat} {gs:List Frame}
 (hv:runN P ν m0=.next (lone g (gs++[Base P]) v)):ν<=n/\runN P (n-ν) (lone g (gs++[Base P]) v)=.next (lone fr [Base P] w1):=by
 obtain⟨b,h1,o,w2,h2⟩:=he.after
 have hle:ν<=n:=by
  rcases Nat.lt_or_ge n ν with ap|ui
  .exfalso;obtain⟨j,rfl⟩:∃j,ν=(n+1)+j:=⟨ν-(n+1),by omega⟩
   rw[runN_add,oH P n _ _ h,h1]at hv;cases j with
   |zero=>
    simp only[runN,Stepped.next.injEq]at hv;have:=(dQ hv).2.1;simp at this
   |succ j=>simp only[runN,h2]at hv;cases hv
  .exact ui
 refine⟨hle,?_⟩;have:n=ν+(n-ν):=by omega
 rw[this,runN_add,hv]at h;exact h
theorem sq {P:Program} {b:Frame} {v1:World} (h:runN P r σ=.next (lone fr [Base P] w1)) (hs:step P σ=.next (lone b [] v1)) (hb:∃o w2,step P (lone b [] v1)=.ended o w2):r=0/\σ=lone fr [Base P] w1:=by
 obtain⟨o,w2,hb⟩:=hb;cases r with
 |zero=>simp only[runN,Stepped.next.injEq]at h;exact⟨rfl,h⟩
 |succ r=>
  exfalso;simp only[runN,hs]at h;cases r with
  |zero=>
   simp only[runN,Stepped.next.injEq]at h;have:=(dQ h).2.1;simp at this
  |succ r=>simp only[runN,hb]at h;cases h
theorem sr {P:Program} {o:Outcome} (h:runN P r σ=.next (lone fr [Base P] w1)) (he:Ends P fr w1) (hs:step P σ=.ended o w2):False:=by
 cases r with
 |zero=>
  simp only[runN,Stepped.next.injEq]at h;obtain⟨b,h1,_⟩:=he.after;rw[h,h1]at hs;cases hs
 |succ r=>simp only[runN,hs]at h;cases h
theorem FL.above {P:Program} {S:Nat->Bool} {H:FuncId->Code->Code->Prop} {p:Pi} (h:FL P S H p (f::t) (f'::t')) {c c':Code} (hh:H f'.fn c c'):∃g g' r r',t=g::r/\t'=g'::r'/\FL P S H p (g::r) (g'::r'):=by
 cases h with
 |one h r=>exact absurd (h.fn▸hh) (r.2 c c')
 |cons h k=>
  cases k with
  |one h r=>exact⟨_,_,_,_,rfl,rfl,.one h r⟩
  |cons h t=>exact⟨_,_,_,_,rfl,rfl,.cons h t⟩
section
variable {P:Program} {F:Array Func} {S:Nat->Bool} {H:FuncId->Code->Code->Prop} {N:Nat} {HA:ji} {HP:dd} {C:Value->World->Prop}
theorem Ck {p:Pi} (hl:oM P S H N HA HP C) (hf:FL P S H p (f::t) (f'::t')) (hh:Cj H f'):E7 H f f'\/∃w k,f.todo=.code (.refuse w)::k/\f.mode=.run:=by
 obtain⟨hm,c,c',k',ht,hH⟩:=hh;have nU:=hf.head.mode;rw[hm]at nU;have aY:f.mode=.run:=by generalize f.mode=o at nU;cases nU;rfl
 have Ak:=hf.head.todo;rw[ht]at Ak
 have key:∀x,f.todo=x->TL P S (H f.fn) p x (.code c'::k')->E7 H f f'\/∃w k,f.todo=.code (.refuse w)::k/\f.mode=.run:=by
  intro x hx Ak;cases Ak with
  |cons hi Ak=>
   cases hi with
   | @code c0 _ Iu=>
     rcases hl.only _ c c' c0 hH (hf.head.fn▸Iu)with h|⟨w,h⟩
     .exact .inl ⟨aY,hm,c0,c',_,k',hx,ht,h⟩
     .rw[h]at hx;exact .inr ⟨w,_,hx,aY⟩
 exact key _ rfl Ak
theorem qx {p:Pi} (hc:Closed P F S H) (hg:gp P S p) {lf:Frame} {oK top:List Frame} {w:World} (hw:WR P S (KS P S) N p lw w)
 (hf:FL P S H p (lf::oK) (f::top)) {R:Value->World->Prop} (hl:oM P S H N HA HP C) (Al:Qr P lf oK lw R C) (main:Bool) (base:List Frame) (hb:J5 P S main base):
 CT (ab P F) main base (oL P S N p R) HA HP (iy p) (bM N p) f top w:=by
 refine Classical.byContradiction fun RW=>?_;let Fin:=oL P S N p R
 let x0:Nd:=⟨p,lw.heap.size,f,top,w⟩
 have km:¬x0.ct (ab P F) N main base Fin HA HP:=RW;let X:=fun k=>Nd.path (ab P F) main base Fin hl x0 k
 let pk:=fun k=>(X k).pick (ab P F) N main base Fin HA HP
 let m:=fun k=>(X k).cnt (ab P F) main base Fin hl
 let D:=fun k=>eT m lw.drawn k
 let start:=fun T:Nat->Question->Nat=>lone lf (oK++[Base P]) {lw with tape:=T}
 have inv:∀k (T:Nat->Question->Nat),(∀j,j<k->∀i,i<m j->T (D j+i)=(X j).piece (ab P F) main base Fin hl i)->∃ν g gs v,k<=ν/\runN P ν (start T)=.next (lone g (gs++[Base P]) v)/\WR P S (KS P S) N (X k).p v (X k).w/\
  FL P S H (X k).p (g::gs) ((X k).f::(X k).top)/\gp P S (X k).p/\v.tape=T/\v.drawn=D k/\v.heap.size=(X k).L/\(¬(X k).ct (ab P F) N main base Fin HA HP)/\Le p (X k).p:=by
  intro k;induction k with
  |zero=>intro T _;exact⟨0,lf,oK,{lw with tape:=T},Nat.le_refl _,rfl,hw.tape T lw.drawn,hf,hg,rfl,rfl,rfl,km,Le.refl p⟩
  |succ k ih=>
   intro T hT;obtain⟨ν,g,gs,v,e0,e1,e2,e3,e4,e5,e6,e7,e8,e9⟩:=ih T fun j hj i hi=>hT j (by omega) i hi;obtain⟨su,oJ⟩:=(X k).qw (ab P F) N main base Fin HA HP e8;have tY:WR P S (KS P S) N (X k).p v (pk k):=e2.env su;obtain⟨n,fr,w1,c1,c2⟩:=Al T
   have kv:Ends P fr w1:=by
    rcases c2 with⟨rv,h,_⟩|⟨e,ch,h,_⟩
    .exact .inl ⟨rv,h⟩
    .exact .inr ⟨_,h⟩
   obtain⟨hle,np⟩:=before c1 kv e1;by_cases jx:Cj H (X k).f
   ·
    rcases Ck hl e3 jx with hh|⟨ws,kk,RX,RY⟩
    .have pY:m k=hl.m1:=by show Nd.cnt _ _ _ _ hl (X k)=_;unfold Nd.cnt;rw[if_pos jx]
     obtain⟨lc,fc,uv,rest,VV,nV,BU⟩:∃lc fc uv rest,gs=lc::uv/\(X k).top=fc::rest/\FL P S H (X k).p (lc::uv) (fc::rest):=by
      obtain⟨_,_,c,c',_,_,_,_,hH⟩:=hh;obtain⟨lc,fc,lr,r,h1,h2,h3⟩:=e3.above hH;exact⟨lc,fc,lr,r,h1,h2,h3⟩
     have pZ:HA (iy (X k).p) (bM N (X k).p) (X k).f (pk k):=by
      let T2:Nat->Question->Nat:=fun i=>if i<D k then T i else hl.a0
      have Nt:∀j,j<k->∀i,i<m j->T2 (D j+i)=(X j).piece (ab P F) main base Fin hl i:=fun j hj i hi=>by
       have h1:=mH m lw.drawn (show j+1<=k by omega);simp only[eT]at h1;have:D j+i<D k:=by show eT m lw.drawn j+i<eT m lw.drawn k;omega
       show(if D j+i<D k then T (D j+i)else hl.a0)=_;rw[if_pos this];exact hT j (by omega) i hi
      obtain⟨ν2,g2,Iy,v2,_,f1,f2,f3,_,f5,f6,_,_,_⟩:=ih T2 Nt;have Qt:E7 H g2 (X k).f\/_:=Ck hl f3 jx;obtain⟨n2,VW,w3,d1,d2⟩:=Al T2
      have sv:Ends P VW w3:=by
       rcases d2 with⟨rv,h,_⟩|⟨e,ch,h,_⟩
       .exact .inl ⟨rv,h⟩
       .exact .inr ⟨_,h⟩
      obtain⟨_,Ka⟩:=before d1 sv f1;rcases Qt with Qt|⟨ws,kk,RX,RY⟩
      .obtain⟨nn,g3,v3,e,p1,p2,p3,p4,p5⟩:=hl.check (X k).p g2 (X k).f v2 (Iy++[Base P]) f3.head Qt (fun q=>by
        rw[f5,f6];show(if D k<D k then T (D k)else hl.a0) q=hl.a0 q;rw[if_neg (Nat.lt_irrefl _)])
       have hgo:runN P (ν2+nn) (start T2)=.next (lone g3 (Iy++[Base P]) v3):=by rw[runN_add,f1];exact p1
       obtain⟨_,Kc⟩:=before d1 sv hgo;have Yr:WR P S (KS P S) N (X k).p v3 (X k).w:=⟨f2.inj,fun r r' h=>by rw[p5];exact f2.blk r r' h,by rw[p5];exact f2.low,f2.fix,by rw[p5];exact f2.eC,f2.iq⟩
       have Ys:∀x∈Iy,FD P S H (X k).p x:=fun x hx=>f3.fd x (by simp[hx]);obtain⟨yW,q1,q2,q3⟩:=oI _ g3 Iy v3 (X k).w [e] e p2 rfl p4 Ys Yr VW w3 Kc sv;rcases d2 with⟨rv,h,_⟩|⟨e',Mp,h,hC,_⟩
       .have:=h.1;rw[q1]at this;cases this
       .have:=h.1;rw[q1]at this;simp only[FrameMode.panicking.injEq]at this;subst this;simp only[List.head?_cons,Option.some.injEq]at q2;subst q2;rw[p3]at hC;have Iz:Alike v2 w3:=fun r=>by have:=q3 r;rw[p5]at this;exact this
        exact hl.ha (X k).p g2 (X k).f v2 (pk k) f3.head Qt (f2.env su) (hl.wQ _ _ _ Iz hC)
      .exact(sr Ka sv (step_lone_ended (o:=.unsupported _ (g2.pos P)) (w':=v2) (by
        unfold stepG;simp only[RY];unfold stepG.exec;simp only[RX];rfl))).elim
     have Am:∃o,(X k).out (ab P F) N main base Fin HA HP (pk k) o:=by
      refine Classical.byContradiction fun i9=>oJ (.inr (.inr (.inr ⟨pZ,fc,rest,nV,fun v w3 dH bk hp=>?_⟩)));exact Classical.byContradiction fun hx=>i9 ⟨(v,w3),fc,rest,dH,bk,nV,hp,hx⟩
     obtain⟨Yt,Nu,dH,bk,IA,Yu,Ke⟩:=(X k).sn (ab P F) N main base Fin HA HP Am;rw[nV]at IA;obtain⟨rfl,rfl⟩:fc=Yt/\rest=Nu:=by simpa using IA
     obtain⟨nn,u,v1,p0,p1,p2,p4,p5,p6,p7,p8,p9,Yv⟩:=hl.pass (X k).p g (X k).f v (pk k) lc (uv++[Base P]) _ _ dH bk e3.head hh tY Yu (fun i hi q=>by
      have:=hT k (by omega) i (by rw[pY];exact hi);rw[e5,e6,this];unfold Nd.piece;rw[if_pos jx])
     have BV:X (k+1)=⟨hl.q3 (X k).p (X k).L (X k).f (pk k) ((X k).dY (ab P F) N main base Fin HA HP).1 ((X k).dY (ab P F) N main base Fin HA HP).2,(X k).L+hl.ln,fc.finish ((X k).dY (ab P F) N main base Fin HA HP).1,rest,((X k).dY (ab P F) N main base Fin HA HP).2⟩:=by
      show(X k).nx (ab P F) main base Fin hl=_;unfold Nd.nx;rw[if_pos jx,nV]
     rw[BV];rw[e7]at p2 p4 p5 p6 p7;refine⟨ν+nn,lc.finish u,uv,v1,by omega,by rw[runN_add,e1,VV];exact p1,p4,(BU.mono p5).top ((BU.mono p5).head.finish p2) (dc _ _),e4.mono p5,p8.trans e5,?_,by rw[Yv,e7],?_,e9.trans p5⟩
     .rw[p9,e6];show D k+hl.m1=eT m lw.drawn k+m k;rw[pY]
     .unfold Nd.ct;rw[<-p6,<-p7];exact Ke
    .exact(sr np kv (step_lone_ended (o:=.unsupported _ (g.pos P)) (w':=v) (by
      unfold stepG;simp only[RY];unfold stepG.exec;simp only[RX];rfl))).elim
   ·
    have pY:m k=(gw ((X k).step (ab P F) main base (pk k))).drawn-(pk k).drawn:=by show Nd.cnt _ _ _ _ hl (X k)=_;unfold Nd.cnt;rw[if_neg jx]
    have wR:i7 (m k) v (pk k):=fun j hj q=>by
     have:=hT k (by omega) j hj;rw[e5,e6,this];unfold Nd.piece;rw[if_neg jx]
    have hd:(gw (stepG (ab P F) main {frame:=(X k).f,callers:=(X k).top++base,status:=.running,dying:=none} (pk k))).drawn<=(pk k).drawn+m k:=by
     rw[pY];show(gw ((X k).step (ab P F) main base (pk k))).drawn<=(pk k).drawn+((gw ((X k).step (ab P F) main base (pk k))).drawn-(pk k).drawn)
     omega
    have Kf:=cR.step (b:=Base P) (bs:=[]) (aK:=base) hc tY e4 e3 (fun c c' k1 Yw hm h1 h2 hH=>jx ⟨by
     have nU:=e3.head.mode;rw[hm]at nU;generalize(X k).f.mode=o at nU;cases nU;rfl,c,c',Yw,h2,e3.head.fn▸hH⟩) (fun⟨_,o,_,_,_,_,_,_,h5,_⟩=>by rw[hl.bare o.op]at h5;cases h5) true main hb wR hd
    rcases Kf with⟨o,w3,es,hs⟩|⟨q,ch,Mp,w3,es,yT,hs⟩|⟨c,nn,v1,w3,es,bP,hm,Nv,iz⟩
    .exact(sr np kv (step_lone_ended (o:=o) (w':=w3) (by rw[hs];rfl))).elim
    .exfalso;have bH:step P (lone g (gs++[Base P]) v)=.next (lone ((Base P).raise ch) [] w3):=step_lone_go (by rw[hs];rfl);obtain⟨_,hσ⟩:=sq np bH (dX P ch w3);rw[hσ]at bH;rcases c2 with⟨rv,h,_⟩|⟨e,yW,h,_,VX⟩
     .rw[step_leave_returned h]at bH;simp only[Stepped.next.injEq]at bH;have q1:=(dQ bH).1;rw[cY]at q1;have:=congrArg (fun f:Frame=>f.mode) q1;simp[Base,Frame.raise]at this
     .rw[step_leave_panicked h]at bH;simp only[Stepped.next.injEq]at bH;have q1:=congrArg (fun f:Frame=>f.mode) (dQ bH).1;simp only[Base,Frame.raise,FrameMode.panicking.injEq]at q1;rw[<-q1]at yT;cases yT with
      |cons b1 b2 hv _=>exact VX S q _ hl.marked hv
    .obtain⟨oN,qy,pN⟩:=cg.fair tY hm Nv;rcases iz with⟨f2,BW,t2,Fx,BU,hs,pO⟩|⟨Kg,wS,hv,hs,pO⟩
     .have bH:step P (lone g (gs++[Base P]) v)=.next (lone f2 (t2++[Base P]) v1):=step_lone_go (by rw[hs];rfl);have qz:=oH P ν _ _ e1;rw[bH]at qz;have nk:(X k).step (ab P F) main base (pk k)=.go (fV BW (Fx++base)) w3 bP:=pO
      have BV:X (k+1)=⟨ext (X k).p (X k).L (pk k).heap.size c,(X k).L+c,BW,Fx,w3⟩:=by
       show(X k).nx (ab P F) main base Fin hl=_;unfold Nd.nx;rw[if_neg jx];have IB:(X k).step (ab P F) main base ((X k).pick (ab P F) N main base Fin HA HP)=.go (fV BW (Fx++base)) w3 bP:=pO;rw[IB]
       have cq:w3.heap.size-((X k).pick (ab P F) N main base Fin HA HP).heap.size=c:=by
        have h6:w3.heap.size=(pk k).heap.size+c:=hm.jp;show w3.heap.size-(pk k).heap.size=c;rw[h6,Nat.add_sub_cancel_left]
       simp only[cq];congr 1;rw[List.length_append,Nat.add_sub_cancel];exact List.take_left
      rw[BV];have hrel:=hm.rel;rw[e7]at hrel BU qy pN;have An:=eD (X k).p (X k).L (pk k).heap.size c;refine⟨ν+1,f2,t2,v1,by omega,qz,hrel,BU,e4.mono An,hm.tape.trans e5,?_,by rw[hm.size,e7],?_,e9.trans An⟩
      .rw[hm.drawn,e6]
       have:m k=nn:=by
        rw[pY,nk];have h5:w3.drawn=(pk k).drawn+nn:=hm.jq;show w3.drawn-(pk k).drawn=nn;rw[h5,Nat.add_sub_cancel_left]
       show D k+nn=eT m lw.drawn k+m k;rw[this]
      .intro wT;refine oJ (.inl ⟨w3,bP,BW,Fx,nk,oN,?_⟩);unfold Nd.ct at wT;rw[qy,pN]at wT;exact wT
     .exfalso;have bH:step P (lone g (gs++[Base P]) v)=.next (lone ((Base P).finish Kg) [] v1):=step_lone_go (by rw[hs];rfl);obtain⟨_,hσ⟩:=sq np bH (eS P Kg v1);rw[hσ]at bH;rcases c2 with⟨rv,h,hR⟩|⟨e,yW,h,_⟩
      .rw[step_leave_returned h]at bH;simp only[Stepped.next.injEq]at bH;obtain⟨q1,_,q3⟩:=dQ bH;rw[cY,cY]at q1
       have Fy:rv=Kg:=by
        have:=congrArg (fun f:Frame=>f.tmps) q1;simpa using this
       subst Fy;subst q3;have oO:Fin (au (iy (X k).p) (pk k) w3) (au (bM N (X k).p) (pk k) w3) wS w3:=⟨_,rv,w1,hR,hv,hm.rel,e9.trans (eD _ _ _ _),qy.symm,pN.symm⟩
       rcases pO with⟨b',si,oP,pO⟩|⟨oP,pO⟩
       .exact oJ (.inr (.inl ⟨w3,bP,wS,b',si,oP,pO,oN,oO⟩))
       .exact oJ (.inr (.inr (.inl ⟨w3,bP,wS,oP,pO,oN,oO⟩)))
      .rw[step_leave_panicked h]at bH;simp only[Stepped.next.injEq]at bH;have q1:=(dQ bH).1;rw[cY]at q1;have:=congrArg (fun f:Frame=>f.mode) q1;simp[Base,Frame.raise]at this
 obtain⟨T,hT⟩:=splice m (fun k j=>(X k).piece (ab P F) main base Fin hl j) lw.drawn;obtain⟨n,fr,w1,c1,c2⟩:=Al T
 have kv:Ends P fr w1:=by
  rcases c2 with⟨rv,h,_⟩|⟨e,ch,h,_⟩
  .exact .inl ⟨rv,h⟩
  .exact .inr ⟨_,h⟩
 obtain⟨ν,g,gs,v,e0,e1,_⟩:=inv (n+1) T fun j _ i hi=>hT j i hi;obtain⟨hle,_⟩:=before c1 kv e1;omega
end
end Go.aC
