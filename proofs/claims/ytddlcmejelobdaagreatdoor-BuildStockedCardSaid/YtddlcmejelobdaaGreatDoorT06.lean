/- A part. Conditions: none. -/
import Derived.Test.YtddlcmejelobdaaGreatDoorT05
import Derived.Conc.EventLaws
import Derived.Conc.SmallLaws
import Derived.Conc.Walk
set_option linter.all false
namespace Go.aq
open Go.Conc
variable {R:Value->World->Prop} {S:Nat->Bool} {args:Array Value} {c:Code} {dX gV:Nat->Prop} {es:Array Event} {f:FuncId} {id:Nat} {lw w1 w2:World}
def PN (P:Program) (main:Bool) (kn own:Nat->Prop) (g:Goroutine) (w:World) (K:mL):Prop:=
 ∀w2,Env kn w w2->∃g2 w3 es,stepG P main g w2=.go g2 w3 es/\g2.status=.running/\Fair kn own w2 w3 es/\K (aE kn w2 w3) (aE own w2 w3) g2 w3
structure Tree (P:Program) (main:Bool) (K:mL):Prop where
 step:∀{kn own g w},PN P main kn own g w K->K kn own g w
 env:∀{kn own g w w2},K kn own g w->Env kn w w2->K kn own g w2
theorem iR.tree (P:Program) (At:mL):Tree P true (iR P At)where
 step:=fun{kn own g w} h=>.mk (fun w2 he=>by
     obtain⟨g2,w3,es,h1,h2,h3,_⟩:=h w2 he;exact .inr ⟨g2,w3,es,h1,h2,h3⟩) fun w2 g2 w3 es he _ bM=>by
     obtain⟨TV,w3',cS,h1,_,_,h4⟩:=h w2 he;rw[bM]at h1;simp only[GStep.go.injEq]at h1;obtain⟨rfl,rfl,rfl⟩:=h1;exact h4
 env:=fun h he=>h.env he
theorem WT.tree (P:Program) (co cd:Nat) (vm:Value) (s:Bool):Tree P false (WT P co cd vm s)where
 step:=fun{kn own g w} h=>.mk (fun w2 he=>by
     obtain⟨g2,w3,es,h1,h2,h3,_⟩:=h w2 he;exact .inl ⟨g2,w3,es,h1,h2,h3⟩) (fun w2 g2 w3 es he bM=>by
     obtain⟨TV,w3',cS,h1,_,_,h4⟩:=h w2 he;rw[bM]at h1;simp only[GStep.go.injEq]at h1;obtain⟨rfl,rfl,rfl⟩:=h1;exact h4) fun w2 z es he bM=>by
     obtain⟨TV,w3',cS,h1,_⟩:=h w2 he;rw[bM]at h1;cases h1
 env:=fun h he=>h.env he
theorem Dk.mono {kn own:Nat->Prop} (hk:∀r,kn r->gV r) (ho:∀r,own r->dX r) {e:Event} (h:Dk kn own e):Dk gV dX e:=
 h.imp id fun⟨h1,r,h2,h3,h4⟩=>⟨h1,r,hk r h2,h3,fun x=>ho r (h4 x)⟩
theorem rO {kn:Nat->Prop} (hk:∀r,kn r->gV r) {w:World}:∀r,aE kn w w1 r->aE gV w w1 r:=fun r h=>h.imp (hk r) id
theorem Fair.mono {kn own:Nat->Prop} (hk:∀r,kn r->gV r) (ho:∀r,own r->dX r) {w:World} (h:Fair kn own w w1 es):Fair gV dX w w1 es:=
 ⟨h.size,fun r hr hn=>h.others r hr fun x=>hn (ho r x),h.os,h.out,h.tape,h.drawn,fun e he=>(h.ev e he).mono (rO hk) (rO ho)⟩
theorem Fair.sub {kn own:Nat->Prop} {w:World} {cS:Array Event} (h:Fair kn own w w1 es) (hs:∀e∈cS,e∈es):Fair kn own w w1 cS:=
 ⟨h.size,h.others,h.os,h.out,h.tape,h.drawn,fun e he=>h.ev e (hs e he)⟩
theorem Env.mono {kn:Nat->Prop} (hk:∀r,kn r->gV r) {w:World} (h:Env gV w w2):Env kn w w2:=⟨h.1,fun r hr=>h.2 r (hk r hr),h.os,h.out⟩
theorem jA (kn X:Nat->Prop) (w w1:World):aE (fun r=>kn r\/X r) w w1=fun r=>aE kn w w1 r\/X r:=by
 funext r;apply propext;unfold aE;constructor
 .rintro((h|h)|h)
  .exact .inl (.inl h)
  .exact .inr h
  .exact .inl (.inr h)
 .rintro((h|h)|h)
  .exact .inl (.inl h)
  .exact .inr h
  .exact .inl (.inr h)
theorem Tree.Hy {P:Program} {main:Bool} {K:mL} (T:Tree P main K) (X Y:Nat->Prop) {b:Frame} {bs:List Frame} {Fin:nJ} {HP:dC} {kn own:Nat->Prop} {f:Frame} {top:List Frame} {w:World}
 (h:CT P main (b::bs) Fin (fun _ _ _ _=>False) HP kn own f top w) (hX:∀r,X r->r<w.heap.size) (hd:∀r,own r->¬X r)
 (hK:∀kn own v w',Fin kn own v w'->Env X w w'->(∀r,own r->¬X r)->K (fun r=>kn r\/X r) (fun r=>own r\/Y r) (ij (b.finish v) bs) w'):
 K (fun r=>kn r\/X r) (fun r=>own r\/Y r) (ij f (top++b::bs)) w:=by
 have key:=CT.ind (I:=fun kn own f top w1=>(∀r,own r->¬X r)->Env X w w1->K (fun r=>kn r\/X r) (fun r=>own r\/Y r) (ij f (top++b::bs)) w1) ?_ h
 .exact key hd (Env.refl _ _)
 intro kn own f top w1 hb ES AP
 have keep:∀{w2 w3:World} {es:Array Event},Env (fun r=>kn r\/X r) w1 w2->Fair kn own w2 w3 es->Env X w w3/\∀r,aE own w2 w3 r->¬X r:=fun{w2 w3 es} he hf=>by
  have HU:Env X w w2:=AP.trans (he.mono fun r h=>.inr h);have ar:∀r,X r->r<w2.heap.size:=fun r hr=>Nat.lt_of_lt_of_le (hX r hr) HU.1;refine⟨HU.trans ⟨hf.size,fun r hr=>hf.others r (ar r hr) fun ho=>ES r ho hr,hf.os,hf.out⟩,fun r hr hx=>?_⟩;rcases hr with hr|hr
  .exact ES r hr hx
  .have:=ar r hx;have:=hr.1;omega
 refine T.step fun w2 he=>?_;rcases hb w2 (he.mono fun r h=>.inl h)with⟨w3,es,f2,nK,h1,h2,h3⟩|⟨w3,es,v,b',vM,h0,h1,h2,h3⟩|⟨w3,es,v,h0,_⟩|⟨h1,_⟩
 .refine⟨_,w3,es,h1,rfl,h2.mono (fun r h=>.inl h) (fun r h=>.inl h),?_⟩;rw[jA,jA];obtain⟨k1,k2⟩:=keep he h2;exact h3.1 k2 k1
 .simp only[List.cons.injEq]at h0;obtain⟨rfl,rfl⟩:=h0;refine⟨_,w3,es,h1,rfl,h2.mono (fun r h=>.inl h) (fun r h=>.inl h),?_⟩;rw[jA,jA];obtain⟨k1,k2⟩:=keep he h2;exact hK _ _ _ _ h3 k1 k2
 .cases h0
 .exact h1.elim
section
variable {P:Program} {main:Bool} {K:mL} {kn own:Nat->Prop} {b:Frame} {a:Act} {k:List Item} {cs:List Frame} {w:World}
theorem Tree.still (T:Tree P main K) {g g2:Goroutine} (bM:∀w,stepG P main g w=.go g2 w #[]) (hr:g2.status=.running) (h:K kn own g2 w):K kn own g w:=
 T.step fun w2 he=>⟨g2,w2,#[],bM w2,hr,Fair.refl (by simp),by rw[aL,aL];exact T.env h he⟩
theorem Tree.seq (T:Tree P main K) {x y:Code} (h:K kn own (G (b.at a (.code x:: .code y::k)) cs) w):K kn own (G (b.at a (.code (.seq x y)::k)) cs) w:=T.still (fun _=>stepG_seq) rfl h
theorem Tree.skip (T:Tree P main K) (h:K kn own (G (b.at a k) cs) w):K kn own (G (b.at a (.code .skip::k)) cs) w:=T.still (fun _=>stepG_skip) rfl h
theorem Tree.inBlock (T:Tree P main K) {id:Nat} (h:K kn own (G (b.at a k) cs) w):K kn own (G (b.at a (.inBlock id::k)) cs) w:=T.still (fun _=>stepG_inBlock) rfl h
theorem Tree.cond (T:Tree P main K) {c:Operand} {x y:Code} {t:Bool} (e:a.eval c=.bool t) (h:K kn own (G (b.at a (.code (if t then x else y)::k)) cs) w):K kn own (G (b.at a (.code (.cond c x y)::k)) cs) w:=T.still (fun _=>stepG_cond e) rfl h
theorem Tree.block (T:Tree P main K) (h:K kn own (G (b.at a (.code c:: .inBlock id::k)) cs) w):K kn own (G (b.at a (.code (.block id c)::k)) cs) w:=T.still (fun _=>stepG_block) rfl h
theorem Tree.loop (T:Tree P main K) (h:K kn own (G (b.at a (.code c:: .inLoop c::k)) cs) w):K kn own (G (b.at a (.code (.loop c)::k)) cs) w:=T.still (fun _=>stepG_loop) rfl h
theorem Tree.inLoop (T:Tree P main K) {c:Code} (h:K kn own (G (b.at a (.code c:: .inLoop c::k)) cs) w):K kn own (G (b.at a (.inLoop c::k)) cs) w:=T.still (fun _=>stepG_inLoop) rfl h
theorem Tree.exit (T:Tree P main K) {k':List Item} (e:exitTo id k=some k') (h:K kn own (G (b.at a k') cs) w):K kn own (G (b.at a (.code (.exit id)::k)) cs) w:=T.still (fun _=>stepG_exit e) rfl h
theorem Tree.region (T:Tree P main K) {ops:Array Oper} (h:K kn own (G (b.at a (.inRegion ops (List.range ops.size)::k)) cs) w):K kn own (G (b.at a (.code (.region id ops false)::k)) cs) w:=T.still (fun _=>stepG_region) rfl h
theorem Tree.aS (T:Tree P main K) {ops:Array Oper} (h:K kn own (G (b.at a k) cs) w):K kn own (G (b.at a (.inRegion ops []::k)) cs) w:=T.still (fun _=>stepG_region_end) rfl h
theorem mM {ops:Array Oper}:stepG P main (G (b.at a (.code (.region id ops true)::k)) cs) w=
 .go (G (b.at a (.inRegion ops (Region.schedule (P.follows .mixedOrders) ops (w.tape w.drawn (.order b.fn id)))::k)) cs) {w with drawn:=w.drawn+1}:=by
 simp[G,stepG,stepG.exec,Frame.at,choose,Sem.run,Question.forced,Question.cut]
theorem Tree.drawn (T:Tree P main K) {ops:Array Oper} (h:∀t,K kn own (G (b.at a (.inRegion ops (Region.schedule (P.follows .mixedOrders) ops t)::k)) cs) w):K kn own (G (b.at a (.code (.region id ops true)::k)) cs) w:=
 T.step fun w2 he=>⟨_,_,#[],mM,rfl,⟨Nat.le_refl _,fun _ _ _=>rfl,rfl,rfl,rfl,Nat.le_succ _,by simp⟩,by
  have e:∀kn:Nat->Prop,aE kn w2 {w2 with drawn:=w2.drawn+1}=kn:=fun kn=>aL kn w2;rw[e,e];exact T.env (h _) ⟨he.1,he.2,he.os,he.out⟩⟩
variable {ops:Array Oper} {i:Nat} {rest:List Nat} {o:Oper}
theorem iS {w3:World} (h:Fair kn own w2 w3 ((execOp a.eval o).events P w2 #[])) (fn:FuncId):Fair kn own w2 w3 (listed P fn a o w2):=h.sub fun e he=>mem_seen he
theorem Tree.op (T:Tree P main K) (ho:ops[i]?=some o) (hw:Region.wanted o (yielded ops a.tmps)=true) (hk:b.kind≠ .early)
 (h:∀w2,Env kn w w2->∃v w3,(execOp a.eval o).run P w2=.ok (.value v) w3/\Fair kn own w2 w3 ((execOp a.eval o).events P w2 #[])/\K (aE kn w2 w3) (aE own w2 w3) (G (b.at (a.put o.dst v) (.inRegion ops rest::k)) cs) w3):
 K kn own (G (b.at a (.inRegion ops (i::rest)::k)) cs) w:=
 T.step fun w2 he=>by
  obtain⟨v,w3,h1,h2,h3⟩:=h w2 he;exact⟨_,w3,_,stepG_value ho hw hk h1,rfl,iS h2 _,h3⟩
theorem Tree.PO (T:Tree P main K) (ho:ops[i]?=some o) (hw:Region.wanted o (yielded ops a.tmps)=true) (hk:b.kind≠ .early)
 (h:∀w2,Env kn w w2->∃w3,(execOp a.eval o).run P w2=.ok .skip w3/\Fair kn own w2 w3 ((execOp a.eval o).events P w2 #[])/\K (aE kn w2 w3) (aE own w2 w3) (G (b.at (a.put o.dst undef) (.inRegion ops rest::k)) cs) w3):
 K kn own (G (b.at a (.inRegion ops (i::rest)::k)) cs) w:=
 T.step fun w2 he=>by
  obtain⟨w3,h1,h2,h3⟩:=h w2 he;exact⟨_,w3,_,stepG_none ho hw hk h1,rfl,iS h2 _,h3⟩
theorem Tree.pure (T:Tree P main K) (v:Value) (ho:ops[i]?=some o) (hw:Region.wanted o (yielded ops a.tmps)=true) (hk:b.kind≠ .early) (h1:∀w2,Env kn w w2->(execOp a.eval o).run P w2=.ok (.value v) w2)
 (h2:∀w2,Env kn w w2->∀e∈(execOp a.eval o).events P w2 #[],Dk kn own e) (h:K kn own (G (b.at (a.put o.dst v) (.inRegion ops rest::k)) cs) w):K kn own (G (b.at a (.inRegion ops (i::rest)::k)) cs) w:=
 T.op ho hw hk fun w2 he=>⟨v,w2,h1 w2 he,Fair.refl (h2 w2 he),by rw[aL,aL];exact T.env h he⟩
theorem iT (kn:Nat->Prop) (w:World) (x:Obj):aE kn w (w.alloc x)=fun r=>kn r\/r=w.heap.size:=by
 funext r;apply propext;have hs:(w.alloc x).heap.size=w.heap.size+1:=by show(w.heap.push x).size=_;simp
 unfold aE new;rw[hs];constructor
 .rintro(h|h)
  .exact .inl h
  .exact .inr (by omega)
 .rintro(h|h)
  .exact .inl h
  .exact .inr (by omega)
theorem Fair.alloc {w:World} (x:Obj):Fair kn own w (w.alloc x) #[]:=
 ⟨by show w.heap.size<=(w.heap.push x).size;simp,fun r hr _=>by show(w.heap.push x)[r]?=_;simp[Array.getElem?_push,Nat.ne_of_lt hr],rfl,rfl,rfl,Nat.le_refl _,by simp⟩
theorem Tree.alloc (T:Tree P main K) (v:Nat->Value) (x:Obj) (ho:ops[i]?=some o) (hw:Region.wanted o (yielded ops a.tmps)=true) (hk:b.kind≠ .early) (h1:∀w2,(execOp a.eval o).run P w2=.ok (.value (v w2.heap.size)) (w2.alloc x))
 (h2:∀w2,(execOp a.eval o).events P w2 #[]=#[]) (h:∀w2,Env kn w w2->K (fun r=>kn r\/r=w2.heap.size) (fun r=>own r\/r=w2.heap.size) (G (b.at (a.put o.dst (v w2.heap.size)) (.inRegion ops rest::k)) cs) (w2.alloc x)):
 K kn own (G (b.at a (.inRegion ops (i::rest)::k)) cs) w:=
 T.op ho hw hk fun w2 he=>⟨_,_,h1 w2,by rw[h2];exact Fair.alloc x,by rw[iT,iT];exact h w2 he⟩
theorem gC (kn:Nat->Prop) (w:World) (ad:Addr) (v:Value):aE kn w (w.setCell ad v)=kn:=by
 funext r;apply propext;unfold aE new;simp only[World.setCell,Array.size_modify];constructor
 .rintro(h|h)
  .exact h
  .omega
 .exact .inl
theorem Fair.setCell {w:World} {ad:Addr} {v:Value} (hk:kn ad.block) (ho:own ad.block):Fair kn own w (w.setCell ad v) #[⟨.cell ad,true,false⟩]:=
 ⟨by simp[World.setCell],fun r hr hn=>by
   have:ad.block≠r:=fun e=>hn (e▸ho);simp[World.setCell,Array.getElem?_modify,this],rfl,rfl,rfl,Nat.le_refl _,fun e he=>by
   have:e=⟨.cell ad,true,false⟩:=by simpa using he
   subst this;rw[gC,gC];exact .inr ⟨rfl,ad.block,hk,.inl ⟨ad,rfl,rfl⟩,fun _=>ho⟩⟩
theorem Tree.set (T:Tree P main K) (ad:Addr) (v:Value) (ho:ops[i]?=some o) (hw:Region.wanted o (yielded ops a.tmps)=true) (hk:b.kind≠ .early) (uj:kn ad.block) (bO:own ad.block)
 (h1:∀w2,Env kn w w2->(execOp a.eval o).run P w2=.ok .skip (w2.setCell ad v)) (h2:∀w2,Env kn w w2->(execOp a.eval o).events P w2 #[]=#[⟨.cell ad,true,false⟩])
 (h:∀w2,Env kn w w2->K kn own (G (b.at (a.put o.dst undef) (.inRegion ops rest::k)) cs) (w2.setCell ad v)):
 K kn own (G (b.at a (.inRegion ops (i::rest)::k)) cs) w:=
 T.PO ho hw hk fun w2 he=>⟨_,h1 w2 he,by rw[h2 w2 he];exact Fair.setCell uj bO,by rw[gC,gC];exact h w2 he⟩
theorem Tree.PP (T:Tree P main K) (ho:ops[i]?=some o) (hw:Region.wanted o (yielded ops a.tmps)=true) (hk:b.kind≠ .early)
 (h:∀w2,Env kn w w2->∀K':Act->World->Prop,(∀a' w3,Fair kn own w2 w3 ((execOp a.eval o).events P w2 #[])->K (aE kn w2 w3) (aE own w2 w3) (G (b.at a' (.inRegion ops rest::k)) cs) w3->K' a' w3)->uponK o a K' ((execOp a.eval o).run P w2)):
 K kn own (G (b.at a (.inRegion ops (i::rest)::k)) cs) w:=
 T.step fun w2 he=>by
  have:=h w2 he (fun a' w3=>Fair kn own w2 w3 ((execOp a.eval o).events P w2 #[])/\K (aE kn w2 w3) (aE own w2 w3) (G (b.at a' (.inRegion ops rest::k)) cs) w3) fun _ _ h1 h2=>⟨h1,h2⟩
  cases hr:(execOp a.eval o).run P w2 with
  |halt x w'=>rw[hr]at this;exact this.elim
  |ok n w'=>
   rw[hr]at this;cases n with
   |value v=>exact⟨_,w',_,stepG_value ho hw hk hr,rfl,iS this.1 _,this.2⟩
   |skip=>exact⟨_,w',_,stepG_none ho hw hk hr,rfl,iS this.1 _,this.2⟩
   |_=>exact this.elim
theorem Tree.call (T:Tree P main K) {fn:Func} {args:Array Operand} {ats:Array TypeId} (ho:ops[i]?=some o) (hw:Region.wanted o (yielded ops a.tmps)=true) (hk:b.kind≠ .early)
 (bJ:o.op=.call {callee:=.value (.func f),args,argTypes:=ats}) (hf:P.funcs[f]? =some fn) (N0:(fn.name== "runtime.NumGoroutine")=false) (hb:fn.body.isNone=false) {vs:Array Value} (AA:args.map a.eval=vs)
 (h:K kn own (G (Frame.enter P f vs .normal) (b.at a (.inRegion ops (i::rest)::k)::cs)) w):K kn own (G (b.at a (.inRegion ops (i::rest)::k)) cs) w:=
 T.still (fun w=>by
  rw[stepG_enter ho hw hk (run_call_body bJ hf N0 hb),AA];have:listed P b.fn a o w=#[]:=by unfold listed;rw[events_call_body bJ hf N0 hb];exact seen_none P _
  rw[this]) rfl h
end
abbrev Ky:FuncId->Code->Code->Prop:=fun _ _ _=>False
abbrev Xa:ky:=fun _ _ _ _=>False
theorem H5 {lf f:Frame} (h:Kx Ky lf f):False:=by
 obtain⟨_,_,_,_,_,_,_,_,h⟩:=h;exact h
theorem v6 (h:∀n,1000<n->S n=false) (o:Op):fE S o=false:=by
 unfold fE;cases o with
 |call c=>
  obtain⟨cl,as,ts⟩:=c;cases cl with
  |value x=>
   cases x with
   |func f=>
    show(S (JK+1+f)&&as.isEmpty)=false;rw[h (JK+1+f) (by unfold JK;omega)];rfl
   |_=>rfl
  |_=>rfl
 |_=>rfl
def rF.none (P:Program) (S:Nat->Bool) (N:Nat) (HP:dC) (hm:S (P.funcs.size+P.globals.size)=false) (hq:∀o,fE S o=false):rF P S Ky N Xa HP (fun _ _=>False)where
 bare:=hq
 a0:=fun _=>0
 m1:=0
 WX:=fun _ _ _ _=>0
 ln:=0
 q3:=fun p _ _ _ _ _=>p
 val:=fun _=>undef
 only:=fun _ _ _ _ h=>h.elim
 marked:=hm
 AW:=fun _ _ _ _ h=>h
 check:=fun _ _ _ _ _ _ h=>(H5 h).elim
 ha:=fun _ _ _ _ _ _ h=>(H5 h).elim
 pass:=fun _ _ _ _ _ _ _ _ _ _ _ _ h=>(H5 h).elim
def Alone (P:Program) (f:FuncId) (args:Array Value) (lw:World) (R:Value->World->Prop):Prop:=∀T,Calls P f args {lw with tape:=T} fun e w'=>∃v,e=.returned v/\R v w'
theorem Alone.bar {P:Program} (h:Alone P f args lw R) (C:Value->World->Prop):WW P (Frame.enter P f args .normal) [] lw R C:=by
 intro T;obtain⟨e,w',fr,⟨v,rfl,hR⟩,⟨n,hn⟩,_,hl⟩:=h T [Base P];exact⟨n,fr,w',hn,.inl ⟨v,hl,hR⟩⟩
theorem Dq {P:Program} {F:Array Func} {N:Nat} {p:Pi} (hc:Closed P F S Ky) (hm:S (P.funcs.size+P.globals.size)=false) (hq:∀o,fE S o=false) (hg:iv P S p) {w:World} (hw:WR P S (KS P S) N p lw w) (hS:S f=true)
 {bu:Array Value} (ha:AR S p args bu) (h:Alone P f args lw R) (main:Bool) (b:Frame) (bs:List Frame) (HP:dC):
 CT (ac P F) main (b::bs) (rE P S N p R) Xa HP (jw p) (bP N p) (Frame.enter (ac P F) f bu .normal) [] w:=
 ui hc hg hw (.one (kx.enter hc hS ha rfl rfl) ⟨rfl,fun _ _ h=>h⟩) (rF.none P S N HP hm hq) (h.bar _) main (b::bs) fun e=>by cases e
end Go.aq
