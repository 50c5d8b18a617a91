/- A part. Conditions: none. -/
import Derived.Test.YtddlcmejelobdaaGreatDoorT04
import Derived.Conc.LeavingOf
set_option linter.all false
namespace Go.aq
open Go.Conc
open Go.ConcN (upd upd_same upd_ne sumTo sumTo_upd sumTo_congr le_sumTo sumTo_le)
variable {Bj:Value->World->Prop} {f:Frame} {kn own:Nat->Prop} {m m':Machine} {t:Trace} {w:World}
def Ending (P:Program) (Bj:Value->World->Prop) (m:Machine) (t:Trace):Prop:=
 ∃N last tl o w' ops,runNT P N m t=(.next last,tl)/\stepT P last=(.ended o w',ops)/\Conc.Good P Bj last o w' (tl++ops)
theorem Ending.step {P:Program} {ops:Array MemOp} (h:stepT P m=(.next m',ops)) (k:Ending P Bj m' (t++ops)):Ending P Bj m t:=by
 obtain⟨N,last,tl,o,w',PM,h1,h2,h3⟩:=k;exact⟨N+1,last,tl,o,w',PM,by simp only[runNT,h];exact h1,h2,h3⟩
theorem Ending.steps {P:Program} {t':Trace} {N:Nat} (h:runNT P N m t=(.next m',t')) (k:Ending P Bj m' t'):Ending P Bj m t:=by
 obtain⟨M,last,tl,o,w',PM,h1,h2,h3⟩:=k;exact⟨N+M,last,tl,o,w',PM,by rw[runNT_add,h];exact h1,h2,h3⟩
def cI (P:Program) (gs:Array Goroutine) (q:Nat->Nat):Prop:=∀i x,0<i->gs[i]?=some x->QuitsIn P (q i) x
def vX (P:Program) (HA:ky) (HP:dC):Prop:=
 ∀kn own f c rest w gs sl t q,gs[0]?=some (ij f (c::rest))->cI P gs q->Co (fun g=>g=0) (fun _=>kn) (fun _=>own) w.heap.size t->HA kn own f w->
  ∃N v w3 ei bq eE gI t' q',runNT P N (crowd gs w sl) t=(.next (crowd eE w3 gI),t')/\HP kn own f w v w3 ei bq/\eE[0]?=some (ij (c.finish v) rest)/\cI P eE q'/\Co (fun g=>g=0) (fun _=>ei) (fun _=>bq) w3.heap.size t'
theorem cI.woken {P:Program} {gs:Array Goroutine} {q:Nat->Nat} (h:cI P gs q) {a:Goroutine} (h0:gs[0]?=some a) (ha:a.status=.running) (g g':Goroutine) (w':World):gs.map (Conc.woken P g g' w')=gs:=by
 refine yx fun j x hj=>?_;unfold Conc.woken;split
 .rcases Nat.eq_zero_or_pos j with rfl|ig
  .rw[h0]at hj;exact again_running _ (.inl (Option.some.inj hj▸ha))
  .exact again_running _ (h j x ig hj).status
 .rfl
theorem Co.lone {k' o':Nat->Nat->Prop} {B:Nat} (h:Co (fun g=>g=0) k' o' B t) (e1:k' 0=kn) (e2:o' 0=own):Co (fun g=>g=0) (fun _=>kn) (fun _=>own) B t:=
 h.shrink (fun g hg r hr=>by rw[hg,e1];exact hr) (fun g hg r hr=>by rw[hg,e2];exact hr) fun g hg r hr=>by
  have:=h.sub 0 rfl r (by rw[e2];exact hr);rwa [e1]at this
section
variable {P:Program} {Fin:nJ} {HA:ky} {HP:dC}
theorem vY (Bl:vX P HA HP) (vZ:∀kn own f w d,HA kn own f (World.at w d)->HA kn own f w) (TU:∀kn own f w d v w3 ei bq,HP kn own f w v w3 ei bq->HP kn own f (World.at w d) v w3 ei bq)
 {top:List Frame} (h:CT P true [] Fin HA HP kn own f top w):
 ∀gs w1 sl t q,Env kn w w1->gs[0]?=some (ij f top)->cI P gs q->Co (fun g=>g=0) (fun _=>kn) (fun _=>own) w1.heap.size t->Ending P (fun v w'=>∃kn own,Fin kn own v w') (crowd gs w1 sl) t:=by
 refine CT.ind (I:=fun kn own f top w=>∀gs w1 sl t q,Env kn w w1->gs[0]?=some (ij f top)->cI P gs q->Co (fun g=>g=0) (fun _=>kn) (fun _=>own) w1.heap.size t->Ending P (fun v w'=>∃kn own,Fin kn own v w') (crowd gs w1 sl) t) ?_ h;intro kn own f top w jz
 have key:∀n gs w1 sl t q,sumTo gs.size q=n->Env kn w w1->gs[0]?=some (ij f top)->cI P gs q->Co (fun g=>g=0) (fun _=>kn) (fun _=>own) w1.heap.size t->Ending P (fun v w'=>∃kn own,Fin kn own v w') (crowd gs w1 sl) t:=by
  intro n;induction n using Nat.strongRecOn with
  |ind n ih=>
   intro gs w1 sl t q hn he h0 hq kV
   have pay:HA kn own f w1->∀c rest,top=c::rest->(∀v w3 ei bq,HP kn own f w1 v w3 ei bq->(∀gs w1 sl t q,Env ei w3 w1->gs[0]?=some (ij (c.finish v) rest)->cI P gs q->Co (fun g=>g=0) (fun _=>ei) (fun _=>bq) w1.heap.size t->Ending P (fun v w'=>∃kn own,Fin kn own v w') (crowd gs w1 sl) t))->Ending P (fun v w'=>∃kn own,Fin kn own v w') (crowd gs w1 sl) t:=by
    intro hA c rest qv hc;subst qv;obtain⟨N,v,w3,ei,bq,eE,gI,t',q',p1,p2,p3,p4,p5⟩:=Bl kn own f c rest w1 gs sl t q h0 hq kV hA;exact(hc v w3 ei bq p2 eE w3 gI t' q' (Env.refl _ _) p3 p4 p5).steps p1
   have aw:∀g∈gs,Conc.awake g:=by
    intro g hg;obtain⟨j,hj,rfl⟩:=Array.mem_iff_getElem.1 hg;have xE:=Array.getElem?_eq_getElem hj;rcases Nat.eq_zero_or_pos j with rfl|ig
    .rw[h0]at xE;rw[<-Option.some.inj xE];exact awake_of (.inl rfl)
    .exact awake_of ((hq j _ ig xE).status.imp id .inr)
   obtain⟨i,g,d,gI,hi,hg,bM⟩:=crowd_pick (P:=P) (w:=w1) (sl:=sl) aw ⟨0,_,h0,rfl⟩;rcases Nat.eq_zero_or_pos i with rfl|ig
   .obtain rfl:g=ij f top:=by rw[h0]at hi;exact(Option.some.inj hi).symm
    have bQ:0<gs.size:=(Array.getElem?_eq_some_iff.1 h0).1;rcases jz (w1.at d) (he.trans (iy _ _ _))with⟨w3,es,f2,nK,h1,h2,h3⟩|⟨w3,es,v,b,bs,h1,_⟩|⟨w3,es,v,_,h1,h2,h3⟩|⟨h1,c,rest,qv,h2⟩
    .simp only[List.append_nil]at h1;have aX:=runT_crowd_go (P:=P) (sl:=gI) (i:=0) h0 (show stepG P (0==0) (ij f top) (w1.at d)=_ from h1);rw[hq.woken h0 rfl]at aX;refine Ending.step (bM.trans aX) (h3.1 _ w3 gI _ q (Env.refl _ _) (aO _ bQ) (fun j x hj hx=>?_) ?_)
     .rw[aF _ (by omega)]at hx;exact hq j x hj hx
     .exact(kV.step (w:=w1.at d) (g:=0) rfl rfl h2 _ _).lone (upd_same ..) (upd_same ..)
    .cases h1
    .simp only[List.append_nil]at h1;have aX:=runT_many_ended (P:=P) (sl:=gI) (i:=0) h0 (show stepG P (0==0) (ij f top) (w1.at d)=_ from h1);have GL:=kV.step (w:=w1.at d) (g:=0) rfl rfl h2 f.fn f.place;refine⟨0,_,t,_,_,_,rfl,bM.trans aX,v,rfl,⟨_,_,h3⟩,GL.clean,GL.handedOver fun g hg=>hg,⟨fun x hx=>?_,rfl⟩,fun j x hx hj=>?_⟩
     .obtain⟨j,hj⟩:=List.mem_iff_getElem?.1 hx;rw[List.getElem?_drop]at hj;exact⟨_,(hq (1+j) x (by omega) (by simpa [crowd]using hj)).leaves⟩
     .refine⟨q j,?_⟩;have e:=GL.calm.deaf j (t++MemOp.ofEvents 0 f.fn f.place es).size;show Goroutine.endsWith P _ (q j) x ((t++MemOp.ofEvents 0 f.fn f.place es).deaf j (t++MemOp.ofEvents 0 f.fn f.place es).size)=some 0;rw[e];exact(hq j x (by omega) hx).hears _ 0
    .exact pay (vZ _ _ _ _ _ h1) c rest qv fun v w3 ei bq hp=>(h2 v w3 ei bq (TU _ _ _ _ _ _ _ _ _ hp)).1
   .have xG:=hq i g ig hi;have xH:(i==0)=false:=by simp;omega
    have ar:i<gs.size:=(Array.getElem?_eq_some_iff.1 hi).1;cases hk:q i with
    |zero=>rw[hk]at xG;rw[show g.status=.finished from xG]at hg;cases hg
    |succ k=>
     rw[hk]at xG;rcases xG with hf|⟨_,g',hs,t8⟩
     .rw[hf]at hg;cases hg
     have aX:=runT_crowd_go (P:=P) (sl:=gI) hi (by rw[xH];exact hs (w1.at d));rw[hq.woken h0 rfl]at aX;have e0:t++MemOp.ofEvents i g.frame.fn g.frame.place #[]=t:=by simp[MemOp.ofEvents]
     refine Ending.step (bM.trans aX) ?_;rw[e0];refine ih (sumTo gs.size (upd q i k)) ?_ _ (w1.at d) gI t (upd q i k) (by simp) (he.trans (iy _ _ _)) ?_ (fun j x hj hx=>?_) kV
     .rw[<-hn];refine jS ar ?_ fun j hj=>upd_ne _ _ hj;rw[upd_same,hk];omega
     .rw[aF _ (by omega)];exact h0
     .by_cases e:j=i
      .subst e;rw[aO _ ar]at hx;rw[upd_same,<-Option.some.inj hx];exact t8
      .rw[aF _ e]at hx;rw[upd_ne _ _ e];exact hq j x hj hx
 intro gs w1 sl t q he h0 hq kV;exact key _ gs w1 sl t q rfl he h0 hq kV
theorem Bm (Bl:vX P HA HP) (vZ:∀kn own f w d,HA kn own f (World.at w d)->HA kn own f w) (TU:∀kn own f w d v w3 ei bq,HP kn own f w v w3 ei bq->HP kn own f (World.at w d) v w3 ei bq)
 (h:CT P true [] Fin HA HP kn own f [] w) (hk:∀r,kn r->r<w.heap.size) (ho:∀r,own r->kn r):
 ∃M last o w' t',runNT P (M+1) (solo (G f []) w) #[]=(.ended o w',t')/\runN P M (solo (G f []) w)=.next last/\step P last=.ended o w'/\Conc.Good P (fun v w'=>∃kn own,Fin kn own v w') last o w' t':=by
 obtain⟨N,last,tl,o,w',ops,h1,h2,h3⟩:=vY Bl vZ TU h #[ij f []] w none #[] (fun _=>0) (Env.refl _ _) rfl (fun i x hi hx=>by
  have:=(Array.getElem?_eq_some_iff.1 hx).1;simp at this;omega) (Co.nil _ (fun g hg=>hg) hk ho)
 refine⟨N,last,o,w',tl++ops,?_,?_,?_,h3⟩
 .rw[runNT_add,show solo (G f []) w=crowd #[ij f []] w none from rfl,h1];simp only[runNT,h2]
 .rw[<-runNT_fst _ _ _ #[],show solo (G f []) w=crowd #[ij f []] w none from rfl,h1]
 .unfold step;rw[h2]
end
end Go.aq
