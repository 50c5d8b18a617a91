/- A part. Conditions: none. -/
import Derived.Test.YtddlcmejelobdaaGreatDoorT04
import Derived.Conc.LeavingOf
import Derived.Conc.EventLaws
import Derived.Conc.SmallLaws
import Derived.Conc.Walk
set_option linter.all false
namespace Go.aC
open Go.Conc
open Go.ConcN (upd upd_same upd_ne sumTo sumTo_upd sumTo_congr le_sumTo sumTo_le)
variable {Fa:fu->nq->Prop} {f:Frame} {kn own:Nat->Prop} {m m':Machine} {t:Trace} {w:nq}
def Ending (P:un) (Fa:fu->nq->Prop) (m:Machine) (t:Trace):Prop:=
 ∃N last tl o w' ops,runNT P N m t=(.next last,tl)/\stepT P last=(.ended o w',ops)/\Conc.Good P Fa last o w' (tl++ops)
def Ending.step {P:un} {ops:Array MemOp} (h:stepT P m=(.next m',ops)) (k:Ending P Fa m' (t++ops)):Ending P Fa m t:=by
 obtain⟨N,last,tl,o,w',Va,h1,h2,h3⟩:=k;exact⟨N+1,last,tl,o,w',Va,by simp only[runNT,h];exact h1,h2,h3⟩
def Ending.steps {P:un} {t':Trace} {N:Nat} (h:runNT P N m t=(.next m',t')) (k:Ending P Fa m' t'):Ending P Fa m t:=by
 obtain⟨M,last,tl,o,w',Va,h1,h2,h3⟩:=k;exact⟨N+M,last,tl,o,w',Va,by rw[runNT_add,h];exact h1,h2,h3⟩
def da (P:un) (gs:Array Goroutine) (q:Nat->Nat):Prop:=∀i x,0<i->gs[i]?=some x->QuitsIn P (q i) x
def zM (P:un) (HA:me) (HP:ep):Prop:=
 ∀kn own f c rest w gs sl t q,gs[0]?=some (jc f (c::rest))->da P gs q->Co (λg=>g=0) (λ_=>kn) (λ_=>own) w.heap.size t->HA kn own f w->
  ∃N v w3 fx bI fH iz t' q',runNT P N (crowd gs w sl) t=(.next (crowd fH w3 iz),t')/\HP kn own f w v w3 fx bI/\fH[0]?=some (jc (c.finish v) rest)/\da P fH q'/\Co (λg=>g=0) (λ_=>fx) (λ_=>bI) w3.heap.size t'
def da.woken {P:un} {gs:Array Goroutine} {q:Nat->Nat} (h:da P gs q) {a:Goroutine} (h0:gs[0]?=some a) (ha:a.status=.running) (g g':Goroutine) (w':nq):gs.map (Conc.woken P g g' w')=gs:=by
 refine B9 λj x hj=>?_;unfold Conc.woken;split
 .rcases zBY j with rfl|gU
  .rw[h0]at hj;exact again_running _ (.inl (zAV hj▸ha))
  .exact again_running _ (h j x gU hj).status
 .rfl
def Co.lone {k' o':Nat->Nat->Prop} {B:Nat} (h:Co (λg=>g=0) k' o' B t) (e1:k' 0=kn) (e2:o' 0=own):Co (λg=>g=0) (λ_=>kn) (λ_=>own) B t:=
 h.shrink (λg hg r hr=>by rw[hg,e1];exact hr) (λg hg r hr=>by rw[hg,e2];exact hr) λg hg r hr=>by
  have:=h.sub 0 rfl r (by rw[e2];exact hr);rwa [e1]at this
section
variable {P:un} {Fin:pS} {HA:me} {HP:ep}
def zN (Fb:zM P HA HP) (zO:∀kn own f w d,HA kn own f (World.at w d)->HA kn own f w) (Zh:∀kn own f w d v w3 fx bI,HP kn own f w v w3 fx bI->HP kn own f (World.at w d) v w3 fx bI)
 {top:List Frame} (h:CT P true [] Fin HA HP kn own f top w):
 ∀gs w1 sl t q,Env kn w w1->gs[0]?=some (jc f top)->da P gs q->Co (λg=>g=0) (λ_=>kn) (λ_=>own) w1.heap.size t->Ending P (λv w'=>∃kn own,Fin kn own v w') (crowd gs w1 sl) t:=by
 refine CT.ind (I:=λkn own f top w=>∀gs w1 sl t q,Env kn w w1->gs[0]?=some (jc f top)->da P gs q->Co (λg=>g=0) (λ_=>kn) (λ_=>own) w1.heap.size t->Ending P (λv w'=>∃kn own,Fin kn own v w') (crowd gs w1 sl) t) ?_ h;intro kn own f top w kE
 have key:∀n gs w1 sl t q,sumTo gs.size q=n->Env kn w w1->gs[0]?=some (jc f top)->da P gs q->Co (λg=>g=0) (λ_=>kn) (λ_=>own) w1.heap.size t->Ending P (λv w'=>∃kn own,Fin kn own v w') (crowd gs w1 sl) t:=by
  intro n;induction n using Nat.strongRecOn with
  |ind n ih=>
   intro gs w1 sl t q hn he h0 hq mM
   have pay:HA kn own f w1->∀c rest,top=c::rest->(∀v w3 fx bI,HP kn own f w1 v w3 fx bI->(∀gs w1 sl t q,Env fx w3 w1->gs[0]?=some (jc (c.finish v) rest)->da P gs q->Co (λg=>g=0) (λ_=>fx) (λ_=>bI) w1.heap.size t->Ending P (λv w'=>∃kn own,Fin kn own v w') (crowd gs w1 sl) t))->Ending P (λv w'=>∃kn own,Fin kn own v w') (crowd gs w1 sl) t:=by
    intro hA c rest lh hc;subst lh;obtain⟨N,v,w3,fx,bI,fH,iz,t',q',p1,p2,p3,p4,p5⟩:=Fb kn own f c rest w1 gs sl t q h0 hq mM hA;exact(hc v w3 fx bI p2 fH w3 iz t' q' (Env.refl _ _) p3 p4 p5).steps p1
   have aw:∀g∈gs,Conc.awake g:=by
    intro g hg;obtain⟨j,hj,rfl⟩:=zCI.1 hg;have Bl:=zAI hj;rcases zBY j with rfl|gU
    .rw[h0]at Bl;rw[<-zAV Bl];exact awake_of (.inl rfl)
    .exact awake_of ((hq j _ gU Bl).status.imp id .inr)
   obtain⟨i,g,d,iz,hi,hg,cu⟩:=crowd_pick (P:=P) (w:=w1) (sl:=sl) aw ⟨0,_,h0,rfl⟩;rcases zBY i with rfl|gU
   .obtain rfl:g=jc f top:=by rw[h0]at hi;exact(zAV hi).symm
    have cr:0<gs.size:=(zAD.1 h0).1;rcases kE (w1.at d) (he.trans (jn _ _ _))with⟨w3,es,f2,pT,h1,h2,h3⟩|⟨w3,es,v,b,bs,h1,_⟩|⟨w3,es,v,_,h1,h2,h3⟩|⟨h1,c,rest,lh,h2⟩
    .simp only[zCP]at h1;have bp:=runT_crowd_go (P:=P) (sl:=iz) (i:=0) h0 (show stepG P (0==0) (jc f top) (w1.at d)=_ from h1);rw[hq.woken h0 rfl]at bp;refine Ending.step (cu.trans bp) (h3.1 _ w3 iz _ q (Env.refl _ _) (ba _ cr) (λj x hj hx=>?_) ?_)
     .rw[aO _ (by omega)]at hx;exact hq j x hj hx
     .exact(mM.step (w:=w1.at d) (g:=0) rfl rfl h2 _ _).lone (upd_same ..) (upd_same ..)
    .cases h1
    .simp only[zCP]at h1;have bp:=runT_many_ended (P:=P) (sl:=iz) (i:=0) h0 (show stepG P (0==0) (jc f top) (w1.at d)=_ from h1);have Ln:=mM.step (w:=w1.at d) (g:=0) rfl rfl h2 f.fn f.place;refine⟨0,_,t,_,_,_,rfl,cu.trans bp,v,rfl,⟨_,_,h3⟩,Ln.clean,Ln.handedOver λg hg=>hg,⟨λx hx=>?_,rfl⟩,λj x hx hj=>?_⟩
     .obtain⟨j,hj⟩:=zGC.1 hx;rw[List.getElem?_drop]at hj;exact⟨_,(hq (1+j) x (by omega) (by simpa [crowd]using hj)).leaves⟩
     .refine⟨q j,?_⟩;have e:=Ln.calm.deaf j (t++MemOp.ofEvents 0 f.fn f.place es).size;show Goroutine.endsWith P _ (q j) x ((t++MemOp.ofEvents 0 f.fn f.place es).deaf j (t++MemOp.ofEvents 0 f.fn f.place es).size)=some 0;rw[e];exact(hq j x (by omega) hx).hears _ 0
    .exact pay (zO _ _ _ _ _ h1) c rest lh λv w3 fx bI hp=>(h2 v w3 fx bI (Zh _ _ _ _ _ _ _ _ _ hp)).1
   .have Bo:=hq i g gU hi;have EY:(i==0)=false:=by simp;omega
    have av:i<gs.size:=(zAD.1 hi).1;cases hk:q i with
    |zero=>rw[hk]at Bo;rw[show g.status=.finished from Bo]at hg;cases hg
    |succ k=>
     rw[hk]at Bo;rcases Bo with hf|⟨_,g',hs,xD⟩
     .rw[hf]at hg;cases hg
     have bp:=runT_crowd_go (P:=P) (sl:=iz) hi (by rw[EY];exact hs (w1.at d));rw[hq.woken h0 rfl]at bp;have e0:t++MemOp.ofEvents i g.frame.fn g.frame.place #[]=t:=by simp[MemOp.ofEvents]
     refine Ending.step (cu.trans bp) ?_;rw[e0];refine ih (sumTo gs.size (upd q i k)) ?_ _ (w1.at d) iz t (upd q i k) (by simp) (he.trans (jn _ _ _)) ?_ (λj x hj hx=>?_) mM
     .rw[<-hn];refine li av ?_ λj hj=>upd_ne _ _ hj;rw[upd_same,hk];omega
     .rw[aO _ (by omega)];exact h0
     .by_cases e:j=i
      .subst e;rw[ba _ av]at hx;rw[upd_same,<-zAV hx];exact xD
      .rw[aO _ e]at hx;rw[upd_ne _ _ e];exact hq j x hj hx
 intro gs w1 sl t q he h0 hq mM;exact key _ gs w1 sl t q rfl he h0 hq mM
def Fc (Fb:zM P HA HP) (zO:∀kn own f w d,HA kn own f (World.at w d)->HA kn own f w) (Zh:∀kn own f w d v w3 fx bI,HP kn own f w v w3 fx bI->HP kn own f (World.at w d) v w3 fx bI)
 (h:CT P true [] Fin HA HP kn own f [] w) (hk:∀r,kn r->r<w.heap.size) (ho:∀r,own r->kn r):
 ∃M last o w' t',runNT P (M+1) (solo (G f []) w) #[]=(.ended o w',t')/\runN P M (solo (G f []) w)=.next last/\step P last=.ended o w'/\Conc.Good P (λv w'=>∃kn own,Fin kn own v w') last o w' t':=by
 obtain⟨N,last,tl,o,w',ops,h1,h2,h3⟩:=zN Fb zO Zh h #[jc f []] w none #[] (λ_=>0) (Env.refl _ _) rfl (λi x hi hx=>by
  have:=(zAD.1 hx).1;simp at this;omega) (Co.nil _ (λg hg=>hg) hk ho)
 refine⟨N,last,o,w',tl++ops,?_,?_,?_,h3⟩
 .rw[runNT_add,show solo (G f []) w=crowd #[jc f []] w none from rfl,h1];simp only[runNT,h2]
 .rw[<-runNT_fst _ _ _ #[],show solo (G f []) w=crowd #[jc f []] w none from rfl,h1]
 .unfold step;rw[h2]
end
end Go.aC

namespace Go.aC
open Go.Conc
variable {R:fu->nq->Prop} {S:Nat->Bool} {args:Array fu} {c:Code} {eZ iR:Nat->Prop} {es:Array Event} {f:FuncId} {lw w1 w2:nq}
def Vb (P:un) (main:Bool) (kn own:Nat->Prop) (g:Goroutine) (w:nq) (K:oL):Prop:=
 ∀w2,Env kn w w2->∃g2 w3 es,stepG P main g w2=.go g2 w3 es/\g2.status=.running/\Fair kn own w2 w3 es/\K (aN kn w2 w3) (aN own w2 w3) g2 w3
structure Tree (P:un) (main:Bool) (K:oL):Prop where
 step:∀{kn own g w},Vb P main kn own g w K->K kn own g w
 env:∀{kn own g w w2},K kn own g w->Env kn w w2->K kn own g w2
def jK.tree (P:un) (At:oL):Tree P true (jK P At)where
 step:=λ{kn own g w} h=>.mk (λw2 he=>by
     obtain⟨g2,w3,es,h1,h2,h3,_⟩:=h w2 he;exact .inr ⟨g2,w3,es,h1,h2,h3⟩) λw2 g2 w3 es he _ cu=>by
     obtain⟨Zi,w3',dk,h1,_,_,h4⟩:=h w2 he;rw[cu]at h1;simp only[GStep.go.injEq]at h1;obtain⟨rfl,rfl,rfl⟩:=h1;exact h4
 env:=λh he=>h.env he
def WT.tree (P:un) (co cd:Nat) (vm:fu) (s:Bool):Tree P false (WT P co cd vm s)where
 step:=λ{kn own g w} h=>.mk (λw2 he=>by
     obtain⟨g2,w3,es,h1,h2,h3,_⟩:=h w2 he;exact .inl ⟨g2,w3,es,h1,h2,h3⟩) (λw2 g2 w3 es he cu=>by
     obtain⟨Zi,w3',dk,h1,_,_,h4⟩:=h w2 he;rw[cu]at h1;simp only[GStep.go.injEq]at h1;obtain⟨rfl,rfl,rfl⟩:=h1;exact h4) λw2 z es he cu=>by
     obtain⟨Zi,w3',dk,h1,_⟩:=h w2 he;rw[cu]at h1;cases h1
 env:=λh he=>h.env he
def Hf.mono {kn own:Nat->Prop} (hk:∀r,kn r->iR r) (ho:∀r,own r->eZ r) {e:Event} (h:Hf kn own e):Hf iR eZ e:=
 h.imp id λ⟨h1,r,h2,h3,h4⟩=>⟨h1,r,hk r h2,h3,λx=>ho r (h4 x)⟩
def uG {kn:Nat->Prop} (hk:∀r,kn r->iR r) {w:nq}:∀r,aN kn w w1 r->aN iR w w1 r:=λr h=>h.imp (hk r) id
def Fair.mono {kn own:Nat->Prop} (hk:∀r,kn r->iR r) (ho:∀r,own r->eZ r) {w:nq} (h:Fair kn own w w1 es):Fair iR eZ w w1 es:=
 ⟨h.size,λr hr hn=>h.others r hr λx=>hn (ho r x),h.os,h.out,h.tape,h.drawn,λe he=>(h.ev e he).mono (uG hk) (uG ho)⟩
def Fair.sub {kn own:Nat->Prop} {w:nq} {dk:Array Event} (h:Fair kn own w w1 es) (hs:∀e∈dk,e∈es):Fair kn own w w1 dk:=
 ⟨h.size,h.others,h.os,h.out,h.tape,h.drawn,λe he=>h.ev e (hs e he)⟩
def Env.mono {kn:Nat->Prop} (hk:∀r,kn r->iR r) {w:nq} (h:Env iR w w2):Env kn w w2:=⟨h.1,λr hr=>h.2 r (hk r hr),h.os,h.out⟩
def kF (kn X:Nat->Prop) (w w1:nq):aN (λr=>kn r\/X r) w w1=λr=>aN kn w w1 r\/X r:=by
 funext r;apply propext;unfold aN;constructor
 .rintro((h|h)|h)
  .exact .inl (.inl h)
  .exact .inr h
  .exact .inl (.inr h)
 .rintro((h|h)|h)
  .exact .inl (.inl h)
  .exact .inr h
  .exact .inl (.inr h)
def Tree.LZ {P:un} {main:Bool} {K:oL} (T:Tree P main K) (X Y:Nat->Prop) {b:Frame} {bs:List Frame} {Fin:pS} {HP:ep} {kn own:Nat->Prop} {f:Frame} {top:List Frame} {w:nq}
 (h:CT P main (b::bs) Fin (λ_ _ _ _=>False) HP kn own f top w) (hX:∀r,X r->r<w.heap.size) (hd:∀r,own r->¬X r)
 (hK:∀kn own v w',Fin kn own v w'->Env X w w'->(∀r,own r->¬X r)->K (λr=>kn r\/X r) (λr=>own r\/Y r) (jc (b.finish v) bs) w'):
 K (λr=>kn r\/X r) (λr=>own r\/Y r) (jc f (top++b::bs)) w:=by
 have key:=CT.ind (I:=λkn own f top w1=>(∀r,own r->¬X r)->Env X w w1->K (λr=>kn r\/X r) (λr=>own r\/Y r) (jc f (top++b::bs)) w1) ?_ h
 .exact key hd (Env.refl _ _)
 intro kn own f top w1 hb Ji EI
 have keep:∀{w2 w3:nq} {es:Array Event},Env (λr=>kn r\/X r) w1 w2->Fair kn own w2 w3 es->Env X w w3/\∀r,aN own w2 w3 r->¬X r:=λ{w2 w3 es} he hf=>by
  have L0:Env X w w2:=EI.trans (he.mono λr h=>.inr h);have av:∀r,X r->r<w2.heap.size:=λr hr=>zAY (hX r hr) L0.1;refine⟨L0.trans ⟨hf.size,λr hr=>hf.others r (av r hr) λho=>Ji r ho hr,hf.os,hf.out⟩,λr hr hx=>?_⟩;rcases hr with hr|hr
  .exact Ji r hr hx
  .have:=av r hx;have:=hr.1;omega
 refine T.step λw2 he=>?_;rcases hb w2 (he.mono λr h=>.inl h)with⟨w3,es,f2,pT,h1,h2,h3⟩|⟨w3,es,v,b',zx,h0,h1,h2,h3⟩|⟨w3,es,v,h0,_⟩|⟨h1,_⟩
 .refine⟨_,w3,es,h1,rfl,h2.mono (λr h=>.inl h) (λr h=>.inl h),?_⟩;rw[kF,kF];obtain⟨k1,k2⟩:=keep he h2;exact h3.1 k2 k1
 .simp only[zCB]at h0;obtain⟨rfl,rfl⟩:=h0;refine⟨_,w3,es,h1,rfl,h2.mono (λr h=>.inl h) (λr h=>.inl h),?_⟩;rw[kF,kF];obtain⟨k1,k2⟩:=keep he h2;exact hK _ _ _ _ h3 k1 k2
 .cases h0
 .exact h1.elim
section
variable {P:un} {main:Bool} {K:oL} {kn own:Nat->Prop} {b:Frame} {a:Act} {k:List Item} {cs:List Frame} {w:nq}
def Tree.still (T:Tree P main K) {g g2:Goroutine} (cu:∀w,stepG P main g w=.go g2 w #[]) (hr:g2.status=.running) (h:K kn own g2 w):K kn own g w:=
 T.step λw2 he=>⟨g2,w2,#[],cu w2,hr,Fair.refl (by simp),by rw[aY,aY];exact T.env h he⟩
def Tree.seq (T:Tree P main K) {x y:Code} (h:K kn own (G (b.at a (.code x:: .code y::k)) cs) w):K kn own (G (b.at a (.code (.seq x y)::k)) cs) w:=T.still (λ_=>stepG_seq) rfl h
def Tree.skip (T:Tree P main K) (h:K kn own (G (b.at a k) cs) w):K kn own (G (b.at a (.code .skip::k)) cs) w:=T.still (λ_=>stepG_skip) rfl h
def Tree.inBlock (T:Tree P main K) {id:Nat} (h:K kn own (G (b.at a k) cs) w):K kn own (G (b.at a (.inBlock id::k)) cs) w:=T.still (λ_=>stepG_inBlock) rfl h
def Tree.cond (T:Tree P main K) {c:Operand} {x y:Code} {t:Bool} (e:a.eval c=.bool t) (h:K kn own (G (b.at a (.code (if t then x else y)::k)) cs) w):K kn own (G (b.at a (.code (.cond c x y)::k)) cs) w:=T.still (λ_=>stepG_cond e) rfl h
def Tree.block (T:Tree P main K) {id:Nat} (h:K kn own (G (b.at a (.code c:: .inBlock id::k)) cs) w):K kn own (G (b.at a (.code (.block id c)::k)) cs) w:=T.still (λ_=>stepG_block) rfl h
def Tree.loop (T:Tree P main K) (h:K kn own (G (b.at a (.code c:: .inLoop c::k)) cs) w):K kn own (G (b.at a (.code (.loop c)::k)) cs) w:=T.still (λ_=>stepG_loop) rfl h
def Tree.inLoop (T:Tree P main K) {c:Code} (h:K kn own (G (b.at a (.code c:: .inLoop c::k)) cs) w):K kn own (G (b.at a (.inLoop c::k)) cs) w:=T.still (λ_=>stepG_inLoop) rfl h
def Tree.exit (T:Tree P main K) {id:Nat} {k':List Item} (e:exitTo id k=some k') (h:K kn own (G (b.at a k') cs) w):K kn own (G (b.at a (.code (.exit id)::k)) cs) w:=T.still (λ_=>stepG_exit e) rfl h
def Tree.region (T:Tree P main K) {id:Nat} {ops:Array Oper} (h:K kn own (G (b.at a (.inRegion ops (List.range ops.size)::k)) cs) w):K kn own (G (b.at a (.code (.region id ops false)::k)) cs) w:=T.still (λ_=>stepG_region) rfl h
def Tree.bi (T:Tree P main K) {ops:Array Oper} (h:K kn own (G (b.at a k) cs) w):K kn own (G (b.at a (.inRegion ops []::k)) cs) w:=T.still (λ_=>stepG_region_end) rfl h
def oM {id:Nat} {ops:Array Oper}:stepG P main (G (b.at a (.code (.region id ops true)::k)) cs) w=
 .go (G (b.at a (.inRegion ops (Region.schedule (P.follows .mixedOrders) ops (w.tape w.drawn (.order b.fn id)))::k)) cs) {w with drawn:=w.drawn+1}:=by
 simp[G,stepG,stepG.exec,Frame.at,choose,Sem.run,Question.forced,Question.cut]
def Tree.drawn (T:Tree P main K) {id:Nat} {ops:Array Oper} (h:∀t,K kn own (G (b.at a (.inRegion ops (Region.schedule (P.follows .mixedOrders) ops t)::k)) cs) w):K kn own (G (b.at a (.code (.region id ops true)::k)) cs) w:=
 T.step λw2 he=>⟨_,_,#[],oM,rfl,⟨zAB _,λ_ _ _=>rfl,rfl,rfl,rfl,zDH _,by simp⟩,by
  have e:∀kn:Nat->Prop,aN kn w2 {w2 with drawn:=w2.drawn+1}=kn:=λkn=>aY kn w2;rw[e,e];exact T.env (h _) ⟨he.1,he.2,he.os,he.out⟩⟩
variable {ops:Array Oper} {i:Nat} {rest:List Nat} {o:Oper}
def jL {w3:nq} (h:Fair kn own w2 w3 ((execOp a.eval o).events P w2 #[])) (fn:FuncId):Fair kn own w2 w3 (listed P fn a o w2):=h.sub λe he=>mem_seen he
def Tree.op (T:Tree P main K) (ho:ops[i]?=some o) (hw:Region.wanted o (yielded ops a.tmps)=true) (hk:b.kind≠ .early)
 (h:∀w2,Env kn w w2->∃v w3,(execOp a.eval o).run P w2=.ok (.value v) w3/\Fair kn own w2 w3 ((execOp a.eval o).events P w2 #[])/\K (aN kn w2 w3) (aN own w2 w3) (G (b.at (a.put o.dst v) (.inRegion ops rest::k)) cs) w3):
 K kn own (G (b.at a (.inRegion ops (i::rest)::k)) cs) w:=
 T.step λw2 he=>by
  obtain⟨v,w3,h1,h2,h3⟩:=h w2 he;exact⟨_,w3,_,stepG_value ho hw hk h1,rfl,jL h2 _,h3⟩
def Tree.Vc (T:Tree P main K) (ho:ops[i]?=some o) (hw:Region.wanted o (yielded ops a.tmps)=true) (hk:b.kind≠ .early)
 (h:∀w2,Env kn w w2->∃w3,(execOp a.eval o).run P w2=.ok .skip w3/\Fair kn own w2 w3 ((execOp a.eval o).events P w2 #[])/\K (aN kn w2 w3) (aN own w2 w3) (G (b.at (a.put o.dst undef) (.inRegion ops rest::k)) cs) w3):
 K kn own (G (b.at a (.inRegion ops (i::rest)::k)) cs) w:=
 T.step λw2 he=>by
  obtain⟨w3,h1,h2,h3⟩:=h w2 he;exact⟨_,w3,_,stepG_none ho hw hk h1,rfl,jL h2 _,h3⟩
def Tree.pure (T:Tree P main K) (v:fu) (ho:ops[i]?=some o) (hw:Region.wanted o (yielded ops a.tmps)=true) (hk:b.kind≠ .early) (h1:∀w2,Env kn w w2->(execOp a.eval o).run P w2=.ok (.value v) w2)
 (h2:∀w2,Env kn w w2->∀e∈(execOp a.eval o).events P w2 #[],Hf kn own e) (h:K kn own (G (b.at (a.put o.dst v) (.inRegion ops rest::k)) cs) w):K kn own (G (b.at a (.inRegion ops (i::rest)::k)) cs) w:=
 T.op ho hw hk λw2 he=>⟨v,w2,h1 w2 he,Fair.refl (h2 w2 he),by rw[aY,aY];exact T.env h he⟩
def jM (kn:Nat->Prop) (w:nq) (x:Obj):aN kn w (w.alloc x)=λr=>kn r\/r=w.heap.size:=by
 funext r;apply propext;have hs:(w.alloc x).heap.size=w.heap.size+1:=by show(w.heap.push x).size=_;simp
 unfold aN new;rw[hs];constructor
 .rintro(h|h)
  .exact .inl h
  .exact .inr (by omega)
 .rintro(h|h)
  .exact .inl h
  .exact .inr (by omega)
def Fair.alloc {w:nq} (x:Obj):Fair kn own w (w.alloc x) #[]:=
 ⟨by show w.heap.size<=(w.heap.push x).size;simp,λr hr _=>by show(w.heap.push x)[r]?=_;simp[zBS,zGI hr],rfl,rfl,rfl,zAB _,by simp⟩
def Tree.alloc (T:Tree P main K) (v:Nat->fu) (x:Obj) (ho:ops[i]?=some o) (hw:Region.wanted o (yielded ops a.tmps)=true) (hk:b.kind≠ .early) (h1:∀w2,(execOp a.eval o).run P w2=.ok (.value (v w2.heap.size)) (w2.alloc x))
 (h2:∀w2,(execOp a.eval o).events P w2 #[]=#[]) (h:∀w2,Env kn w w2->K (λr=>kn r\/r=w2.heap.size) (λr=>own r\/r=w2.heap.size) (G (b.at (a.put o.dst (v w2.heap.size)) (.inRegion ops rest::k)) cs) (w2.alloc x)):
 K kn own (G (b.at a (.inRegion ops (i::rest)::k)) cs) w:=
 T.op ho hw hk λw2 he=>⟨_,_,h1 w2,by rw[h2];exact Fair.alloc x,by rw[jM,jM];exact h w2 he⟩
def ir (kn:Nat->Prop) (w:nq) (ad:Addr) (v:fu):aN kn w (w.setCell ad v)=kn:=by
 funext r;apply propext;unfold aN new;simp only[World.setCell,Array.size_modify];constructor
 .rintro(h|h)
  .exact h
  .omega
 .exact .inl
def Fair.setCell {w:nq} {ad:Addr} {v:fu} (hk:kn ad.block) (ho:own ad.block):Fair kn own w (w.setCell ad v) #[⟨.cell ad,true,false⟩]:=
 ⟨by simp[World.setCell],λr hr hn=>by
   have:ad.block≠r:=λe=>hn (e▸ho);simp[World.setCell,zDD,this],rfl,rfl,rfl,zAB _,λe he=>by
   have:e=⟨.cell ad,true,false⟩:=by simpa using he
   subst this;rw[ir,ir];exact .inr ⟨rfl,ad.block,hk,.inl ⟨ad,rfl,rfl⟩,λ_=>ho⟩⟩
def Tree.set (T:Tree P main K) (ad:Addr) (v:fu) (ho:ops[i]?=some o) (hw:Region.wanted o (yielded ops a.tmps)=true) (hk:b.kind≠ .early) (xN:kn ad.block) (bQ:own ad.block)
 (h1:∀w2,Env kn w w2->(execOp a.eval o).run P w2=.ok .skip (w2.setCell ad v)) (h2:∀w2,Env kn w w2->(execOp a.eval o).events P w2 #[]=#[⟨.cell ad,true,false⟩])
 (h:∀w2,Env kn w w2->K kn own (G (b.at (a.put o.dst undef) (.inRegion ops rest::k)) cs) (w2.setCell ad v)):
 K kn own (G (b.at a (.inRegion ops (i::rest)::k)) cs) w:=
 T.Vc ho hw hk λw2 he=>⟨_,h1 w2 he,by rw[h2 w2 he];exact Fair.setCell xN bQ,by rw[ir,ir];exact h w2 he⟩
def Tree.Vd (T:Tree P main K) (ho:ops[i]?=some o) (hw:Region.wanted o (yielded ops a.tmps)=true) (hk:b.kind≠ .early)
 (h:∀w2,Env kn w w2->∀K':Act->nq->Prop,(∀a' w3,Fair kn own w2 w3 ((execOp a.eval o).events P w2 #[])->K (aN kn w2 w3) (aN own w2 w3) (G (b.at a' (.inRegion ops rest::k)) cs) w3->K' a' w3)->uponK o a K' ((execOp a.eval o).run P w2)):
 K kn own (G (b.at a (.inRegion ops (i::rest)::k)) cs) w:=
 T.step λw2 he=>by
  have:=h w2 he (λa' w3=>Fair kn own w2 w3 ((execOp a.eval o).events P w2 #[])/\K (aN kn w2 w3) (aN own w2 w3) (G (b.at a' (.inRegion ops rest::k)) cs) w3) λ_ _ h1 h2=>⟨h1,h2⟩
  cases hr:(execOp a.eval o).run P w2 with
  |halt x w'=>rw[hr]at this;exact this.elim
  |ok n w'=>
   rw[hr]at this;cases n with
   |value v=>exact⟨_,w',_,stepG_value ho hw hk hr,rfl,jL this.1 _,this.2⟩
   |skip=>exact⟨_,w',_,stepG_none ho hw hk hr,rfl,jL this.1 _,this.2⟩
   |_=>exact this.elim
def Tree.call (T:Tree P main K) {fn:Func} {args:Array Operand} {ats:Array a00} (ho:ops[i]?=some o) (hw:Region.wanted o (yielded ops a.tmps)=true) (hk:b.kind≠ .early)
 (cj:o.op=.call {callee:=.value (.func f),args,argTypes:=ats}) (hf:P.funcs[f]? =some fn) (Td:(fn.name== "runtime.NumGoroutine")=false) (hb:fn.body.isNone=false) {vs:Array Value} (sr:args.map a.eval=vs)
 (h:K kn own (G (Frame.enter P f vs .normal) (b.at a (.inRegion ops (i::rest)::k)::cs)) w):K kn own (G (b.at a (.inRegion ops (i::rest)::k)) cs) w:=
 T.still (λw=>by
  rw[stepG_enter ho hw hk (run_call_body cj hf Td hb),sr];have:listed P b.fn a o w=#[]:=by unfold listed;rw[events_call_body cj hf Td hb];exact seen_none P _
  rw[this]) rfl h
end
abbrev OU:FuncId->Code->Code->Prop:=λ_ _ _=>False
abbrev noA:me:=λ_ _ _ _=>False
def L1 {lf f:Frame} (h:OT OU lf f):False:=by
 obtain⟨_,_,_,_,_,_,_,_,h⟩:=h;exact h
def zP (h:∀n,1000<n->S n=false) (o:Op):gG S o=false:=by
 unfold gG;cases o with
 |call c=>
  obtain⟨cl,as,ts⟩:=c;cases cl with
  |value x=>
   cases x with
   |func f=>
    show(S (JK+1+f)&&as.isEmpty)=false;rw[h (JK+1+f) (by unfold JK;omega)];rfl
   |_=>rfl
  |_=>rfl
 |_=>rfl
def uy.none (P:un) (S:Nat->Bool) (N:Nat) (HP:ep) (hm:S (P.funcs.size+P.globals.size)=false) (hq:∀o,gG S o=false):uy P S OU N noA HP (λ_ _=>False)where
 bare:=hq
 a0:=λ_=>0
 m1:=0
 ans:=λ_ _ _ _=>0
 ln:=0
 q3:=λp _ _ _ _ _=>p
 val:=λ_=>undef
 only:=λ_ _ _ _ h=>h.elim
 marked:=hm
 EQ:=λ_ _ _ _ h=>h
 check:=λ_ _ _ _ _ _ h=>(L1 h).elim
 ha:=λ_ _ _ _ _ _ h=>(L1 h).elim
 pass:=λ_ _ _ _ _ _ _ _ _ _ _ _ h=>(L1 h).elim
def Alone (P:un) (f:FuncId) (args:Array fu) (lw:nq) (R:fu->nq->Prop):Prop:=∀T,Calls P f args {lw with tape:=T} λe w'=>∃v,e=.returned v/\R v w'
def Alone.bar {P:un} (h:Alone P f args lw R) (C:fu->nq->Prop):Bar P (Frame.enter P f args .normal) [] lw R C:=by
 intro T;obtain⟨e,w',fr,⟨v,rfl,hR⟩,⟨n,hn⟩,_,hl⟩:=h T [Base P];exact⟨n,fr,w',hn,.inl ⟨v,hl,hR⟩⟩
def Hm {P:un} {F:Array Func} {N:Nat} {p:Pi} (hc:Closed P F S OU) (hm:S (P.funcs.size+P.globals.size)=false) (hq:∀o,gG S o=false) (hg:jl P S p) {w:nq} (hw:WR P S (KS P S) N p lw w) (hS:S f=true)
 {bM:Array fu} (ha:AR S p args bM) (h:Alone P f args lw R) (main:Bool) (b:Frame) (bs:List Frame) (HP:ep):
 CT (ae P F) main (b::bs) (uw P S N p R) noA HP (kB p) (cz N p) (Frame.enter (ae P F) f bM .normal) [] w:=
 xM hc hg hw (.one (lZ.enter hc hS ha rfl rfl) ⟨rfl,λ_ _ h=>h⟩) (uy.none P S N HP hm hq) (h.bar _) main (b::bs) λe=>by cases e
end Go.aC
