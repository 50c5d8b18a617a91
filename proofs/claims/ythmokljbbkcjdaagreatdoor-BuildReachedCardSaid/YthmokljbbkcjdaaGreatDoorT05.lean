/- A part. Conditions: none. -/
import Derived.Test.YthmokljbbkcjdaaGreatDoorT04
import Derived.Conc.LeavingOf
set_option linter.all false
namespace Go.aC
open Go.Conc
open Go.ConcN (upd upd_same upd_ne sumTo sumTo_upd sumTo_congr le_sumTo sumTo_le)
variable {f:Frame} {kn own:Nat->Prop} {m m':Machine} {t:Trace} {w:World} {xf:Value->World->Prop}
def Ending (P:Program) (xf:Value->World->Prop) (m:Machine) (t:Trace):Prop:=
 ∃N last tl o w' ops,runNT P N m t=(.next last,tl)/\stepT P last=(.ended o w',ops)/\Conc.Good P xf last o w' (tl++ops)
theorem Ending.step {P:Program} {ops:Array MemOp} (h:stepT P m=(.next m',ops)) (k:Ending P xf m' (t++ops)):Ending P xf m t:=by
 obtain⟨N,last,tl,o,w',Kv,h1,h2,h3⟩:=k;exact⟨N+1,last,tl,o,w',Kv,by simp only[runNT,h];exact h1,h2,h3⟩
theorem Ending.steps {P:Program} {t':Trace} {N:Nat} (h:runNT P N m t=(.next m',t')) (k:Ending P xf m' t'):Ending P xf m t:=by
 obtain⟨M,last,tl,o,w',Kv,h1,h2,h3⟩:=k;exact⟨N+M,last,tl,o,w',Kv,by rw[runNT_add,h];exact h1,h2,h3⟩
def cw (P:Program) (gs:Array Goroutine) (q:Nat->Nat):Prop:=∀i x,0<i->gs[i]?=some x->QuitsIn P (q i) x
def sA (P:Program) (HA:ji) (HP:dd):Prop:=
 ∀kn own f c rest w gs sl t q,gs[0]?=some (fV f (c::rest))->cw P gs q->Co (fun g=>g=0) (fun _=>kn) (fun _=>own) w.heap.size t->HA kn own f w->
  ∃N v w3 dH bk dP eR t' q',runNT P N (crowd gs w sl) t=(.next (crowd dP w3 eR),t')/\HP kn own f w v w3 dH bk/\dP[0]?=some (fV (c.finish v) rest)/\cw P dP q'/\Co (fun g=>g=0) (fun _=>dH) (fun _=>bk) w3.heap.size t'
theorem cw.woken {P:Program} {gs:Array Goroutine} {q:Nat->Nat} (h:cw P gs q) {a:Goroutine} (h0:gs[0]?=some a) (ha:a.status=.running) (g g':Goroutine) (w':World):gs.map (Conc.woken P g g' w')=gs:=by
 refine uB fun j x hj=>?_;unfold Conc.woken;split
 .rcases Nat.eq_zero_or_pos j with rfl|fv
  .rw[h0]at hj;exact again_running _ (.inl (Option.some.inj hj▸ha))
  .exact again_running _ (h j x fv hj).status
 .rfl
theorem Co.lone {k' o':Nat->Nat->Prop} {B:Nat} (h:Co (fun g=>g=0) k' o' B t) (e1:k' 0=kn) (e2:o' 0=own):Co (fun g=>g=0) (fun _=>kn) (fun _=>own) B t:=
 h.shrink (fun g hg r hr=>by rw[hg,e1];exact hr) (fun g hg r hr=>by rw[hg,e2];exact hr) fun g hg r hr=>by
  have:=h.sub 0 rfl r (by rw[e2];exact hr);rwa [e1]at this
section
variable {P:Program} {Fin:lH} {HA:ji} {HP:dd}
theorem sB (xg:sA P HA HP) (Cv:∀kn own f w d,HA kn own f (World.at w d)->HA kn own f w) (NF:∀kn own f w d v w3 dH bk,HP kn own f w v w3 dH bk->HP kn own f (World.at w d) v w3 dH bk)
 {top:List Frame} (h:CT P true [] Fin HA HP kn own f top w):
 ∀gs w1 sl t q,Env kn w w1->gs[0]?=some (fV f top)->cw P gs q->Co (fun g=>g=0) (fun _=>kn) (fun _=>own) w1.heap.size t->Ending P (fun v w'=>∃kn own,Fin kn own v w') (crowd gs w1 sl) t:=by
 refine CT.ind (I:=fun kn own f top w=>∀gs w1 sl t q,Env kn w w1->gs[0]?=some (fV f top)->cw P gs q->Co (fun g=>g=0) (fun _=>kn) (fun _=>own) w1.heap.size t->Ending P (fun v w'=>∃kn own,Fin kn own v w') (crowd gs w1 sl) t) ?_ h;intro kn own f top w iB
 have key:∀n gs w1 sl t q,sumTo gs.size q=n->Env kn w w1->gs[0]?=some (fV f top)->cw P gs q->Co (fun g=>g=0) (fun _=>kn) (fun _=>own) w1.heap.size t->Ending P (fun v w'=>∃kn own,Fin kn own v w') (crowd gs w1 sl) t:=by
  intro n;induction n using Nat.strongRecOn with
  |ind n ih=>
   intro gs w1 sl t q hn he h0 hq jz
   have pay:HA kn own f w1->∀c rest,top=c::rest->(∀v w3 dH bk,HP kn own f w1 v w3 dH bk->(∀gs w1 sl t q,Env dH w3 w1->gs[0]?=some (fV (c.finish v) rest)->cw P gs q->Co (fun g=>g=0) (fun _=>dH) (fun _=>bk) w1.heap.size t->Ending P (fun v w'=>∃kn own,Fin kn own v w') (crowd gs w1 sl) t))->Ending P (fun v w'=>∃kn own,Fin kn own v w') (crowd gs w1 sl) t:=by
    intro hA c rest nV hc;subst nV;obtain⟨N,v,w3,dH,bk,dP,eR,t',q',p1,p2,p3,p4,p5⟩:=xg kn own f c rest w1 gs sl t q h0 hq jz hA;exact(hc v w3 dH bk p2 dP w3 eR t' q' (Env.refl _ _) p3 p4 p5).steps p1
   have aw:∀g∈gs,Conc.awake g:=by
    intro g hg;obtain⟨j,hj,rfl⟩:=Array.mem_iff_getElem.1 hg;have tZ:=Array.getElem?_eq_getElem hj;rcases Nat.eq_zero_or_pos j with rfl|fv
    .rw[h0]at tZ;rw[<-Option.some.inj tZ];exact awake_of (.inl rfl)
    .exact awake_of ((hq j _ fv tZ).status.imp id .inr)
   obtain⟨i,g,d,eR,hi,hg,bF⟩:=crowd_pick (P:=P) (w:=w1) (sl:=sl) aw ⟨0,_,h0,rfl⟩;rcases Nat.eq_zero_or_pos i with rfl|fv
   .obtain rfl:g=fV f top:=by rw[h0]at hi;exact(Option.some.inj hi).symm
    have cq:0<gs.size:=(Array.getElem?_eq_some_iff.1 h0).1;rcases iB (w1.at d) (he.trans (gt _ _ _))with⟨w3,es,f2,lI,h1,h2,h3⟩|⟨w3,es,v,b,bs,h1,_⟩|⟨w3,es,v,_,h1,h2,h3⟩|⟨h1,c,rest,nV,h2⟩
    .simp only[List.append_nil]at h1;have aY:=runT_crowd_go (P:=P) (sl:=eR) (i:=0) h0 (show stepG P (0==0) (fV f top) (w1.at d)=_ from h1);rw[hq.woken h0 rfl]at aY;refine Ending.step (bF.trans aY) (h3.1 _ w3 eR _ q (Env.refl _ _) (aL _ cq) (fun j x hj hx=>?_) ?_)
     .rw[av _ (by omega)]at hx;exact hq j x hj hx
     .exact(jz.step (w:=w1.at d) (g:=0) rfl rfl h2 _ _).lone (upd_same ..) (upd_same ..)
    .cases h1
    .simp only[List.append_nil]at h1;have aY:=runT_many_ended (P:=P) (sl:=eR) (i:=0) h0 (show stepG P (0==0) (fV f top) (w1.at d)=_ from h1);have yU:=jz.step (w:=w1.at d) (g:=0) rfl rfl h2 f.fn f.place;refine⟨0,_,t,_,_,_,rfl,bF.trans aY,v,rfl,⟨_,_,h3⟩,yU.clean,yU.handedOver fun g hg=>hg,⟨fun x hx=>?_,rfl⟩,fun j x hx hj=>?_⟩
     .obtain⟨j,hj⟩:=List.mem_iff_getElem?.1 hx;rw[List.getElem?_drop]at hj;exact⟨_,(hq (1+j) x (by omega) (by simpa [crowd]using hj)).leaves⟩
     .refine⟨q j,?_⟩;have e:=yU.calm.deaf j (t++MemOp.ofEvents 0 f.fn f.place es).size;show Goroutine.endsWith P _ (q j) x ((t++MemOp.ofEvents 0 f.fn f.place es).deaf j (t++MemOp.ofEvents 0 f.fn f.place es).size)=some 0;rw[e];exact(hq j x (by omega) hx).hears _ 0
    .exact pay (Cv _ _ _ _ _ h1) c rest nV fun v w3 dH bk hp=>(h2 v w3 dH bk (NF _ _ _ _ _ _ _ _ _ hp)).1
   .have t8:=hq i g fv hi;have uC:(i==0)=false:=by simp;omega
    have ap:i<gs.size:=(Array.getElem?_eq_some_iff.1 hi).1;cases hk:q i with
    |zero=>rw[hk]at t8;rw[show g.status=.finished from t8]at hg;cases hg
    |succ k=>
     rw[hk]at t8;rcases t8 with hf|⟨_,g',hs,nf⟩
     .rw[hf]at hg;cases hg
     have aY:=runT_crowd_go (P:=P) (sl:=eR) hi (by rw[uC];exact hs (w1.at d));rw[hq.woken h0 rfl]at aY;have e0:t++MemOp.ofEvents i g.frame.fn g.frame.place #[]=t:=by simp[MemOp.ofEvents]
     refine Ending.step (bF.trans aY) ?_;rw[e0];refine ih (sumTo gs.size (upd q i k)) ?_ _ (w1.at d) eR t (upd q i k) (by simp) (he.trans (gt _ _ _)) ?_ (fun j x hj hx=>?_) jz
     .rw[<-hn];refine iO ap ?_ fun j hj=>upd_ne _ _ hj;rw[upd_same,hk];omega
     .rw[av _ (by omega)];exact h0
     .by_cases e:j=i
      .subst e;rw[aL _ ap]at hx;rw[upd_same,<-Option.some.inj hx];exact nf
      .rw[av _ e]at hx;rw[upd_ne _ _ e];exact hq j x hj hx
 intro gs w1 sl t q he h0 hq jz;exact key _ gs w1 sl t q rfl he h0 hq jz
theorem xh (xg:sA P HA HP) (Cv:∀kn own f w d,HA kn own f (World.at w d)->HA kn own f w) (NF:∀kn own f w d v w3 dH bk,HP kn own f w v w3 dH bk->HP kn own f (World.at w d) v w3 dH bk)
 (h:CT P true [] Fin HA HP kn own f [] w) (hk:∀r,kn r->r<w.heap.size) (ho:∀r,own r->kn r):
 ∃M last o w' t',runNT P (M+1) (solo (G f []) w) #[]=(.ended o w',t')/\runN P M (solo (G f []) w)=.next last/\step P last=.ended o w'/\Conc.Good P (fun v w'=>∃kn own,Fin kn own v w') last o w' t':=by
 obtain⟨N,last,tl,o,w',ops,h1,h2,h3⟩:=sB xg Cv NF h #[fV f []] w none #[] (fun _=>0) (Env.refl _ _) rfl (fun i x hi hx=>by
  have:=(Array.getElem?_eq_some_iff.1 hx).1;simp at this;omega) (Co.nil _ (fun g hg=>hg) hk ho)
 refine⟨N,last,o,w',tl++ops,?_,?_,?_,h3⟩
 .rw[runNT_add,show solo (G f []) w=crowd #[fV f []] w none from rfl,h1];simp only[runNT,h2]
 .rw[<-runNT_fst _ _ _ #[],show solo (G f []) w=crowd #[fV f []] w none from rfl,h1]
 .unfold step;rw[h2]
end
end Go.aC
