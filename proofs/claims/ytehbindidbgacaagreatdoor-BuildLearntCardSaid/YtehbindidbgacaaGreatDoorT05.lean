/- A part. Conditions: none. -/
import Derived.Test.YtehbindidbgacaaGreatDoorT04
import Derived.Conc.LeavingOf
set_option linter.all false
namespace Go.aC
open Go.Conc
open Go.ConcN (upd upd_same upd_ne sumTo sumTo_upd sumTo_congr le_sumTo sumTo_le)
variable {Cm:Value->World->Prop} {f:Frame} {kn own:Nat->Prop} {m m':Machine} {t:Trace} {w:World}
def Ending (P:Program) (Cm:Value->World->Prop) (m:Machine) (t:Trace):Prop:=
 ∃N last tl o w' ops,runNT P N m t=(.next last,tl)/\stepT P last=(.ended o w',ops)/\Conc.Good P Cm last o w' (tl++ops)
theorem Ending.step {P:Program} {ops:Array MemOp} (h:stepT P m=(.next m',ops)) (k:Ending P Cm m' (t++ops)):Ending P Cm m t:=by
 obtain⟨N,last,tl,o,w',Rn,h1,h2,h3⟩:=k;exact⟨N+1,last,tl,o,w',Rn,by simp only[runNT,h];exact h1,h2,h3⟩
theorem Ending.steps {P:Program} {t':Trace} {N:Nat} (h:runNT P N m t=(.next m',t')) (k:Ending P Cm m' t'):Ending P Cm m t:=by
 obtain⟨M,last,tl,o,w',Rn,h1,h2,h3⟩:=k;exact⟨N+M,last,tl,o,w',Rn,by rw[runNT_add,h];exact h1,h2,h3⟩
def cR (P:Program) (gs:Array Goroutine) (q:Nat->Nat):Prop:=∀i x,0<i->gs[i]?=some x->QuitsIn P (q i) x
def wZ (P:Program) (HA:kV) (HP:dS):Prop:=
 ∀kn own f c rest w gs sl t q,gs[0]?=some (iz f (c::rest))->cR P gs q->Co (λg=>g=0) (λ_=>kn) (λ_=>own) w.heap.size t->HA kn own f w->
  ∃N v w3 eS bt ff gT t' q',runNT P N (crowd gs w sl) t=(.next (crowd ff w3 gT),t')/\HP kn own f w v w3 eS bt/\ff[0]?=some (iz (c.finish v) rest)/\cR P ff q'/\Co (λg=>g=0) (λ_=>eS) (λ_=>bt) w3.heap.size t'
theorem cR.woken {P:Program} {gs:Array Goroutine} {q:Nat->Nat} (h:cR P gs q) {a:Goroutine} (h0:gs[0]?=some a) (ha:a.status=.running) (g g':Goroutine) (w':World):gs.map (Conc.woken P g g' w')=gs:=by
 refine zs λj x hj=>?_;unfold Conc.woken;split
 .rcases zBT j with rfl|gi
  .rw[h0]at hj;exact again_running _ (.inl (zAY hj▸ha))
  .exact again_running _ (h j x gi hj).status
 .rfl
theorem Co.lone {k' o':Nat->Nat->Prop} {B:Nat} (h:Co (λg=>g=0) k' o' B t) (e1:k' 0=kn) (e2:o' 0=own):Co (λg=>g=0) (λ_=>kn) (λ_=>own) B t:=
 h.shrink (λg hg r hr=>by rw[hg,e1];exact hr) (λg hg r hr=>by rw[hg,e2];exact hr) λg hg r hr=>by
  have:=h.sub 0 rfl r (by rw[e2];exact hr);rwa [e1]at this
section
variable {P:Program} {Fin:oe} {HA:kV} {HP:dS}
theorem xe (Cn:wZ P HA HP) (IN:∀kn own f w d,HA kn own f (World.at w d)->HA kn own f w) (Vz:∀kn own f w d v w3 eS bt,HP kn own f w v w3 eS bt->HP kn own f (World.at w d) v w3 eS bt)
 {top:List Frame} (h:CT P true [] Fin HA HP kn own f top w):
 ∀gs w1 sl t q,Env kn w w1->gs[0]?=some (iz f top)->cR P gs q->Co (λg=>g=0) (λ_=>kn) (λ_=>own) w1.heap.size t->Ending P (λv w'=>∃kn own,Fin kn own v w') (crowd gs w1 sl) t:=by
 refine CT.ind (I:=λkn own f top w=>∀gs w1 sl t q,Env kn w w1->gs[0]?=some (iz f top)->cR P gs q->Co (λg=>g=0) (λ_=>kn) (λ_=>own) w1.heap.size t->Ending P (λv w'=>∃kn own,Fin kn own v w') (crowd gs w1 sl) t) ?_ h;intro kn own f top w jV
 have key:∀n gs w1 sl t q,sumTo gs.size q=n->Env kn w w1->gs[0]?=some (iz f top)->cR P gs q->Co (λg=>g=0) (λ_=>kn) (λ_=>own) w1.heap.size t->Ending P (λv w'=>∃kn own,Fin kn own v w') (crowd gs w1 sl) t:=by
  intro n;induction n using Nat.strongRecOn with
  |ind n ih=>
   intro gs w1 sl t q hn he h0 hq lE
   have pay:HA kn own f w1->∀c rest,top=c::rest->(∀v w3 eS bt,HP kn own f w1 v w3 eS bt->(∀gs w1 sl t q,Env eS w3 w1->gs[0]?=some (iz (c.finish v) rest)->cR P gs q->Co (λg=>g=0) (λ_=>eS) (λ_=>bt) w1.heap.size t->Ending P (λv w'=>∃kn own,Fin kn own v w') (crowd gs w1 sl) t))->Ending P (λv w'=>∃kn own,Fin kn own v w') (crowd gs w1 sl) t:=by
    intro hA c rest re hc;subst re;obtain⟨N,v,w3,eS,bt,ff,gT,t',q',p1,p2,p3,p4,p5⟩:=Cn kn own f c rest w1 gs sl t q h0 hq lE hA;exact(hc v w3 eS bt p2 ff w3 gT t' q' (Env.refl _ _) p3 p4 p5).steps p1
   have aw:∀g∈gs,Conc.awake g:=by
    intro g hg;obtain⟨j,hj,rfl⟩:=zCH.1 hg;have yP:=zAG hj;rcases zBT j with rfl|gi
    .rw[h0]at yP;rw[<-zAY yP];exact awake_of (.inl rfl)
    .exact awake_of ((hq j _ gi yP).status.imp id .inr)
   obtain⟨i,g,d,gT,hi,hg,bK⟩:=crowd_pick (P:=P) (w:=w1) (sl:=sl) aw ⟨0,_,h0,rfl⟩;rcases zBT i with rfl|gi
   .obtain rfl:g=iz f top:=by rw[h0]at hi;exact(zAY hi).symm
    have bW:0<gs.size:=(zAD.1 h0).1;rcases jV (w1.at d) (he.trans (iJ _ _ _))with⟨w3,es,f2,og,h1,h2,h3⟩|⟨w3,es,v,b,bs,h1,_⟩|⟨w3,es,v,_,h1,h2,h3⟩|⟨h1,c,rest,re,h2⟩
    .simp only[zCY]at h1;have aW:=runT_crowd_go (P:=P) (sl:=gT) (i:=0) h0 (show stepG P (0==0) (iz f top) (w1.at d)=_ from h1);rw[hq.woken h0 rfl]at aW;refine Ending.step (bK.trans aW) (h3.1 _ w3 gT _ q (Env.refl _ _) (aP _ bW) (λj x hj hx=>?_) ?_)
     .rw[aH _ (by omega)]at hx;exact hq j x hj hx
     .exact(lE.step (w:=w1.at d) (g:=0) rfl rfl h2 _ _).lone (upd_same ..) (upd_same ..)
    .cases h1
    .simp only[zCY]at h1;have aW:=runT_many_ended (P:=P) (sl:=gT) (i:=0) h0 (show stepG P (0==0) (iz f top) (w1.at d)=_ from h1);have H6:=lE.step (w:=w1.at d) (g:=0) rfl rfl h2 f.fn f.place;refine⟨0,_,t,_,_,_,rfl,bK.trans aW,v,rfl,⟨_,_,h3⟩,H6.clean,H6.handedOver λg hg=>hg,⟨λx hx=>?_,rfl⟩,λj x hx hj=>?_⟩
     .obtain⟨j,hj⟩:=List.mem_iff_getElem?.1 hx;rw[List.getElem?_drop]at hj;exact⟨_,(hq (1+j) x (by omega) (by simpa [crowd]using hj)).leaves⟩
     .refine⟨q j,?_⟩;have e:=H6.calm.deaf j (t++MemOp.ofEvents 0 f.fn f.place es).size;show Goroutine.endsWith P _ (q j) x ((t++MemOp.ofEvents 0 f.fn f.place es).deaf j (t++MemOp.ofEvents 0 f.fn f.place es).size)=some 0;rw[e];exact(hq j x (by omega) hx).hears _ 0
    .exact pay (IN _ _ _ _ _ h1) c rest re λv w3 eS bt hp=>(h2 v w3 eS bt (Vz _ _ _ _ _ _ _ _ _ hp)).1
   .have yR:=hq i g gi hi;have wX:(i==0)=false:=by simp;omega
    have az:i<gs.size:=(zAD.1 hi).1;cases hk:q i with
    |zero=>rw[hk]at yR;rw[show g.status=.finished from yR]at hg;cases hg
    |succ k=>
     rw[hk]at yR;rcases yR with hf|⟨_,g',hs,uT⟩
     .rw[hf]at hg;cases hg
     have aW:=runT_crowd_go (P:=P) (sl:=gT) hi (by rw[wX];exact hs (w1.at d));rw[hq.woken h0 rfl]at aW;have e0:t++MemOp.ofEvents i g.frame.fn g.frame.place #[]=t:=by simp[MemOp.ofEvents]
     refine Ending.step (bK.trans aW) ?_;rw[e0];refine ih (sumTo gs.size (upd q i k)) ?_ _ (w1.at d) gT t (upd q i k) (by simp) (he.trans (iJ _ _ _)) ?_ (λj x hj hx=>?_) lE
     .rw[<-hn];refine kh az ?_ λj hj=>upd_ne _ _ hj;rw[upd_same,hk];omega
     .rw[aH _ (by omega)];exact h0
     .by_cases e:j=i
      .subst e;rw[aP _ az]at hx;rw[upd_same,<-zAY hx];exact uT
      .rw[aH _ e]at hx;rw[upd_ne _ _ e];exact hq j x hj hx
 intro gs w1 sl t q he h0 hq lE;exact key _ gs w1 sl t q rfl he h0 hq lE
theorem Cp (Cn:wZ P HA HP) (IN:∀kn own f w d,HA kn own f (World.at w d)->HA kn own f w) (Vz:∀kn own f w d v w3 eS bt,HP kn own f w v w3 eS bt->HP kn own f (World.at w d) v w3 eS bt)
 (h:CT P true [] Fin HA HP kn own f [] w) (hk:∀r,kn r->r<w.heap.size) (ho:∀r,own r->kn r):
 ∃M last o w' t',runNT P (M+1) (solo (G f []) w) #[]=(.ended o w',t')/\runN P M (solo (G f []) w)=.next last/\step P last=.ended o w'/\Conc.Good P (λv w'=>∃kn own,Fin kn own v w') last o w' t':=by
 obtain⟨N,last,tl,o,w',ops,h1,h2,h3⟩:=xe Cn IN Vz h #[iz f []] w none #[] (λ_=>0) (Env.refl _ _) rfl (λi x hi hx=>by
  have:=(zAD.1 hx).1;simp at this;omega) (Co.nil _ (λg hg=>hg) hk ho)
 refine⟨N,last,o,w',tl++ops,?_,?_,?_,h3⟩
 .rw[runNT_add,show solo (G f []) w=crowd #[iz f []] w none from rfl,h1];simp only[runNT,h2]
 .rw[<-runNT_fst _ _ _ #[],show solo (G f []) w=crowd #[iz f []] w none from rfl,h1]
 .unfold step;rw[h2]
end
end Go.aC
