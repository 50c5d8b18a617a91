/- A part. Conditions: none. -/
import Derived.Test.YtboiakcocelkmaaGreatDoorT04
import Derived.Conc.LeavingOf
set_option linter.all false
namespace Go.au
open Go.Conc
open Go.ConcN (upd upd_same upd_ne sumTo sumTo_upd sumTo_congr le_sumTo sumTo_le)
variable {f:Frame} {kn own:Nat->Prop} {m m':Machine} {t:Trace} {w:World} {zI:Value->World->Prop}
def Ending (P:Program) (zI:Value->World->Prop) (m:Machine) (t:Trace):Prop:=
 ∃N last tl o w' ops,runNT P N m t=(.next last,tl)/\stepT P last=(.ended o w',ops)/\Conc.Good P zI last o w' (tl++ops)
theorem Ending.step {P:Program} {ops:Array MemOp} (h:stepT P m=(.next m',ops)) (k:Ending P zI m' (t++ops)):Ending P zI m t:=by
 obtain⟨N,last,tl,o,w',MY,h1,h2,h3⟩:=k;exact⟨N+1,last,tl,o,w',MY,by simp only[runNT,h];exact h1,h2,h3⟩
theorem Ending.steps {P:Program} {t':Trace} {N:Nat} (h:runNT P N m t=(.next m',t')) (k:Ending P zI m' t'):Ending P zI m t:=by
 obtain⟨M,last,tl,o,w',MY,h1,h2,h3⟩:=k;exact⟨N+M,last,tl,o,w',MY,by rw[runNT_add,h];exact h1,h2,h3⟩
def cu (P:Program) (gs:Array Goroutine) (q:Nat->Nat):Prop:=∀i x,0<i->gs[i]?=some x->QuitsIn P (q i) x
def uN (P:Program) (HA:jY) (HP:dp):Prop:=
 ∀kn own f c rest w gs sl t q,gs[0]?=some (gN f (c::rest))->cu P gs q->Co (fun g=>g=0) (fun _=>kn) (fun _=>own) w.heap.size t->HA kn own f w->
  ∃N v w3 dW be eB fW t' q',runNT P N (crowd gs w sl) t=(.next (crowd eB w3 fW),t')/\HP kn own f w v w3 dW be/\eB[0]?=some (gN (c.finish v) rest)/\cu P eB q'/\Co (fun g=>g=0) (fun _=>dW) (fun _=>be) w3.heap.size t'
theorem cu.woken {P:Program} {gs:Array Goroutine} {q:Nat->Nat} (h:cu P gs q) {a:Goroutine} (h0:gs[0]?=some a) (ha:a.status=.running) (g g':Goroutine) (w':World):gs.map (Conc.woken P g g' w')=gs:=by
 refine wR fun j x hj=>?_;unfold Conc.woken;split
 .rcases Nat.eq_zero_or_pos j with rfl|gH
  .rw[h0]at hj;exact again_running _ (.inl (Option.some.inj hj▸ha))
  .exact again_running _ (h j x gH hj).status
 .rfl
theorem Co.lone {k' o':Nat->Nat->Prop} {B:Nat} (h:Co (fun g=>g=0) k' o' B t) (e1:k' 0=kn) (e2:o' 0=own):Co (fun g=>g=0) (fun _=>kn) (fun _=>own) B t:=
 h.shrink (fun g hg r hr=>by rw[hg,e1];exact hr) (fun g hg r hr=>by rw[hg,e2];exact hr) fun g hg r hr=>by
  have:=h.sub 0 rfl r (by rw[e2];exact hr);rwa [e1]at this
section
variable {P:Program} {Fin:mO} {HA:jY} {HP:dp}
theorem uO (zJ:uN P HA HP) (E2:∀kn own f w d,HA kn own f (World.at w d)->HA kn own f w) (Qp:∀kn own f w d v w3 dW be,HP kn own f w v w3 dW be->HP kn own f (World.at w d) v w3 dW be)
 {top:List Frame} (h:CT P true [] Fin HA HP kn own f top w):
 ∀gs w1 sl t q,Env kn w w1->gs[0]?=some (gN f top)->cu P gs q->Co (fun g=>g=0) (fun _=>kn) (fun _=>own) w1.heap.size t->Ending P (fun v w'=>∃kn own,Fin kn own v w') (crowd gs w1 sl) t:=by
 refine CT.ind (I:=fun kn own f top w=>∀gs w1 sl t q,Env kn w w1->gs[0]?=some (gN f top)->cu P gs q->Co (fun g=>g=0) (fun _=>kn) (fun _=>own) w1.heap.size t->Ending P (fun v w'=>∃kn own,Fin kn own v w') (crowd gs w1 sl) t) ?_ h;intro kn own f top w jb
 have key:∀n gs w1 sl t q,sumTo gs.size q=n->Env kn w w1->gs[0]?=some (gN f top)->cu P gs q->Co (fun g=>g=0) (fun _=>kn) (fun _=>own) w1.heap.size t->Ending P (fun v w'=>∃kn own,Fin kn own v w') (crowd gs w1 sl) t:=by
  intro n;induction n using Nat.strongRecOn with
  |ind n ih=>
   intro gs w1 sl t q hn he h0 hq jw
   have pay:HA kn own f w1->∀c rest,top=c::rest->(∀v w3 dW be,HP kn own f w1 v w3 dW be->(∀gs w1 sl t q,Env dW w3 w1->gs[0]?=some (gN (c.finish v) rest)->cu P gs q->Co (fun g=>g=0) (fun _=>dW) (fun _=>be) w1.heap.size t->Ending P (fun v w'=>∃kn own,Fin kn own v w') (crowd gs w1 sl) t))->Ending P (fun v w'=>∃kn own,Fin kn own v w') (crowd gs w1 sl) t:=by
    intro hA c rest ju hc;subst ju;obtain⟨N,v,w3,dW,be,eB,fW,t',q',p1,p2,p3,p4,p5⟩:=zJ kn own f c rest w1 gs sl t q h0 hq jw hA;exact(hc v w3 dW be p2 eB w3 fW t' q' (Env.refl _ _) p3 p4 p5).steps p1
   have aw:∀g∈gs,Conc.awake g:=by
    intro g hg;obtain⟨j,hj,rfl⟩:=Array.mem_iff_getElem.1 hg;have we:=Array.getElem?_eq_getElem hj;rcases Nat.eq_zero_or_pos j with rfl|gH
    .rw[h0]at we;rw[<-Option.some.inj we];exact awake_of (.inl rfl)
    .exact awake_of ((hq j _ gH we).status.imp id .inr)
   obtain⟨i,g,d,fW,hi,hg,bF⟩:=crowd_pick (P:=P) (w:=w1) (sl:=sl) aw ⟨0,_,h0,rfl⟩;rcases Nat.eq_zero_or_pos i with rfl|gH
   .obtain rfl:g=gN f top:=by rw[h0]at hi;exact(Option.some.inj hi).symm
    have bP:0<gs.size:=(Array.getElem?_eq_some_iff.1 h0).1;rcases jb (w1.at d) (he.trans (gW _ _ _))with⟨w3,es,f2,mP,h1,h2,h3⟩|⟨w3,es,v,b,bs,h1,_⟩|⟨w3,es,v,_,h1,h2,h3⟩|⟨h1,c,rest,ju,h2⟩
    .simp only[List.append_nil]at h1;have aP:=runT_crowd_go (P:=P) (sl:=fW) (i:=0) h0 (show stepG P (0==0) (gN f top) (w1.at d)=_ from h1);rw[hq.woken h0 rfl]at aP;refine Ending.step (bF.trans aP) (h3.1 _ w3 fW _ q (Env.refl _ _) (aM _ bP) (fun j x hj hx=>?_) ?_)
     .rw[aD _ (by omega)]at hx;exact hq j x hj hx
     .exact(jw.step (w:=w1.at d) (g:=0) rfl rfl h2 _ _).lone (upd_same ..) (upd_same ..)
    .cases h1
    .simp only[List.append_nil]at h1;have aP:=runT_many_ended (P:=P) (sl:=fW) (i:=0) h0 (show stepG P (0==0) (gN f top) (w1.at d)=_ from h1);have EN:=jw.step (w:=w1.at d) (g:=0) rfl rfl h2 f.fn f.place;refine⟨0,_,t,_,_,_,rfl,bF.trans aP,v,rfl,⟨_,_,h3⟩,EN.clean,EN.handedOver fun g hg=>hg,⟨fun x hx=>?_,rfl⟩,fun j x hx hj=>?_⟩
     .obtain⟨j,hj⟩:=List.mem_iff_getElem?.1 hx;rw[List.getElem?_drop]at hj;exact⟨_,(hq (1+j) x (by omega) (by simpa [crowd]using hj)).leaves⟩
     .refine⟨q j,?_⟩;have e:=EN.calm.deaf j (t++MemOp.ofEvents 0 f.fn f.place es).size;show Goroutine.endsWith P _ (q j) x ((t++MemOp.ofEvents 0 f.fn f.place es).deaf j (t++MemOp.ofEvents 0 f.fn f.place es).size)=some 0;rw[e];exact(hq j x (by omega) hx).hears _ 0
    .exact pay (E2 _ _ _ _ _ h1) c rest ju fun v w3 dW be hp=>(h2 v w3 dW be (Qp _ _ _ _ _ _ _ _ _ hp)).1
   .have wh:=hq i g gH hi;have wS:(i==0)=false:=by simp;omega
    have az:i<gs.size:=(Array.getElem?_eq_some_iff.1 hi).1;cases hk:q i with
    |zero=>rw[hk]at wh;rw[show g.status=.finished from wh]at hg;cases hg
    |succ k=>
     rw[hk]at wh;rcases wh with hf|⟨_,g',hs,tn⟩
     .rw[hf]at hg;cases hg
     have aP:=runT_crowd_go (P:=P) (sl:=fW) hi (by rw[wS];exact hs (w1.at d));rw[hq.woken h0 rfl]at aP;have e0:t++MemOp.ofEvents i g.frame.fn g.frame.place #[]=t:=by simp[MemOp.ofEvents]
     refine Ending.step (bF.trans aP) ?_;rw[e0];refine ih (sumTo gs.size (upd q i k)) ?_ _ (w1.at d) fW t (upd q i k) (by simp) (he.trans (gW _ _ _)) ?_ (fun j x hj hx=>?_) jw
     .rw[<-hn];refine jv az ?_ fun j hj=>upd_ne _ _ hj;rw[upd_same,hk];omega
     .rw[aD _ (by omega)];exact h0
     .by_cases e:j=i
      .subst e;rw[aM _ az]at hx;rw[upd_same,<-Option.some.inj hx];exact tn
      .rw[aD _ e]at hx;rw[upd_ne _ _ e];exact hq j x hj hx
 intro gs w1 sl t q he h0 hq jw;exact key _ gs w1 sl t q rfl he h0 hq jw
theorem zK (zJ:uN P HA HP) (E2:∀kn own f w d,HA kn own f (World.at w d)->HA kn own f w) (Qp:∀kn own f w d v w3 dW be,HP kn own f w v w3 dW be->HP kn own f (World.at w d) v w3 dW be)
 (h:CT P true [] Fin HA HP kn own f [] w) (hk:∀r,kn r->r<w.heap.size) (ho:∀r,own r->kn r):
 ∃M last o w' t',runNT P (M+1) (solo (G f []) w) #[]=(.ended o w',t')/\runN P M (solo (G f []) w)=.next last/\step P last=.ended o w'/\Conc.Good P (fun v w'=>∃kn own,Fin kn own v w') last o w' t':=by
 obtain⟨N,last,tl,o,w',ops,h1,h2,h3⟩:=uO zJ E2 Qp h #[gN f []] w none #[] (fun _=>0) (Env.refl _ _) rfl (fun i x hi hx=>by
  have:=(Array.getElem?_eq_some_iff.1 hx).1;simp at this;omega) (Co.nil _ (fun g hg=>hg) hk ho)
 refine⟨N,last,o,w',tl++ops,?_,?_,?_,h3⟩
 .rw[runNT_add,show solo (G f []) w=crowd #[gN f []] w none from rfl,h1];simp only[runNT,h2]
 .rw[<-runNT_fst _ _ _ #[],show solo (G f []) w=crowd #[gN f []] w none from rfl,h1]
 .unfold step;rw[h2]
end
end Go.au
