/- A part. Conditions: none. -/
import Derived.Test.YtehbindidbgacaaGreatDoorT03
import Derived.Conc.CrowdSel
import Derived.Conc.Script
set_option linter.all false
namespace Go.aC
open Go.Conc
variable {kn own:Nat->Prop} {w2:World} {α:Type}
abbrev np:=(Nat->Prop)->(Nat->Prop)->Goroutine->World->Prop
inductive WT (P:Program) (co cd:Nat) (vm:Value):Bool->np
 |mk {s:Bool} {kn own:Nat->Prop} {g:Goroutine} {w:World}
   (ok:∀w2,Env kn w w2->
     (∃g2 w3 es,stepG P false g w2=.go g2 w3 es/\g2.status=.running/\Fair kn own w2 w3 es)\/
     (∃z es,s=true/\stepG P false g w2=.comm g #[scase co vm z] true .send w2 es/\∀e∈es,Eg kn own e)\/
     (∃v z es q,s=false/\stepG P false g w2=.comm g #[scase cd v z] true .send w2 es/\(∀e∈es,Eg kn own e)/\QuitsIn P q (Conc.served g undef)))
   (go:∀w2 g2 w3 es,Env kn w w2->stepG P false g w2=.go g2 w3 es->WT P co cd vm s (aG kn w2 w3) (aG own w2 w3) g2 w3)
   (Q7:∀w2 z es,Env kn w w2->stepG P false g w2=.comm g #[scase co vm z] true .send w2 es->WT P co cd vm false kn own (Conc.served g undef) w2):WT P co cd vm s kn own g w
structure jU where
 vm:Value
 s:Bool
 kn:Nat->Prop
 own:Nat->Prop
 g:Goroutine
 w:World
def jU.ok (P:Program) (co cd:Nat) (x:jU):Prop:=WT P co cd x.vm x.s x.kn x.own x.g x.w
def jU.kid (P:Program) (co:Nat) (y x:jU):Prop:=
 y.vm=x.vm/\∃w2,Env x.kn x.w w2/\
  ((∃es,stepG P false x.g w2=.go y.g y.w es/\y.kn=aG x.kn w2 y.w/\y.own=aG x.own w2 y.w/\y.s=x.s)\/
   (∃z es,stepG P false x.g w2=.comm x.g #[scase co x.vm z] true .send w2 es/\y.g=Conc.served x.g undef/\y.w=w2/\y.kn=x.kn/\y.own=x.own/\y.s=false))
def jU.lt (P:Program) (co cd:Nat) (y x:jU):Prop:=x.ok P co cd/\y.kid P co x
theorem jU.wf (P:Program) (co cd:Nat):WellFounded (jU.lt P co cd):=by
 refine⟨λx=>?_⟩;by_cases h:x.ok P co cd
 .obtain⟨vm,s,kn,own,g,w⟩:=x;change WT P co cd vm s kn own g w at h;induction h with
  |mk ok go Q7 ih1 ih2=>
   refine⟨_,λy hy=>?_⟩;obtain⟨_,e,w2,he,⟨es,h1,h2,h3,h4⟩|⟨z,es,h1,h2,h3,h4,h5,h6⟩⟩:=hy
   .obtain⟨yv,ys,yk,yo,yg,yw⟩:=y;simp only at e h1 h2 h3 h4 he;subst e;subst h2;subst h3;subst h4;exact ih1 w2 yg yw es he h1
   .obtain⟨yv,ys,yk,yo,yg,yw⟩:=y;simp only at e h1 h2 h3 h4 h5 h6 he;subst e;subst h2;subst h3;subst h4;subst h5;subst h6;exact ih2 yw z es he h1
 .exact⟨_,λy hy=>absurd hy.1 h⟩
theorem WT.env {P:Program} {co cd:Nat} {vm:Value} {s:Bool} {g:Goroutine} {w:World} (h:WT P co cd vm s kn own g w) (he:Env kn w w2):WT P co cd vm s kn own g w2:=by
 cases h with
 |mk ok go Q7=>exact .mk (λw3 h3=>ok w3 (he.trans h3)) (λw3 g2 w4 es h3=>go w3 g2 w4 es (he.trans h3)) (λw3 z es h3=>Q7 w3 z es (he.trans h3))
inductive jf (P:Program) (At:np):np
 |mk {kn own:Nat->Prop} {g:Goroutine} {w:World}
   (ok:∀w2,Env kn w w2->At kn own g w2\/∃g2 w3 es,stepG P true g w2=.go g2 w3 es/\g2.status=.running/\Fair kn own w2 w3 es)
   (go:∀w2 g2 w3 es,Env kn w w2->¬At kn own g w2->stepG P true g w2=.go g2 w3 es->jf P At (aG kn w2 w3) (aG own w2 w3) g2 w3):jf P At kn own g w
structure lD where
 At:np
 kn:Nat->Prop
 own:Nat->Prop
 g:Goroutine
 w:World
def lD.ok (P:Program) (x:lD):Prop:=jf P x.At x.kn x.own x.g x.w
def lD.lt (P:Program) (y x:lD):Prop:=
 x.ok P/\y.At=x.At/\∃w2 es,Env x.kn x.w w2/\¬x.At x.kn x.own x.g w2/\stepG P true x.g w2=.go y.g y.w es/\y.kn=aG x.kn w2 y.w/\y.own=aG x.own w2 y.w
theorem lD.wf (P:Program):WellFounded (lD.lt P):=by
 refine⟨λx=>?_⟩;by_cases h:x.ok P
 .obtain⟨At,kn,own,g,w⟩:=x;change jf P At kn own g w at h;induction h with
  |mk ok go ih=>
   refine⟨_,λy hy=>?_⟩;obtain⟨_,e,w2,es,he,hn,h1,h2,h3⟩:=hy;obtain⟨yA,yk,yo,yg,yw⟩:=y;simp only at e h1 h2 h3 he hn;subst e;subst h2;subst h3;exact ih w2 yg yw es he hn h1
 .exact⟨_,λy hy=>absurd hy.1 h⟩
theorem jf.env {P:Program} {At:np} {g:Goroutine} {w:World} (h:jf P At kn own g w) (he:Env kn w w2):jf P At kn own g w2:=by
 cases h with
 |mk ok go=>exact .mk (λw3 h3=>ok w3 (he.trans h3)) (λw3 g2 w4 es h3=>go w3 g2 w4 es (he.trans h3))
theorem jf.here {P:Program} {At:np} {g:Goroutine} {w:World} (h:∀w2,Env kn w w2->At kn own g w2):jf P At kn own g w:=
 .mk (λw2 he=>.inl (h w2 he)) λw2 _ _ _ he hn=>absurd (h w2 he) hn
def RV (R:α->α->Prop) (n:Nat) (v' v:Nat->α):Prop:=∃i,i<n/\R (v' i) (v i)/\∀j,j≠i->v' j=v j
theorem RV.wf {R:α->α->Prop} (h:WellFounded R):∀n,WellFounded (RV R n):=by
 intro n;induction n with
 |zero=>exact⟨λv=>⟨_,λv' ⟨i,hi,_⟩=>absurd hi (zEM i)⟩⟩
 |succ n ih=>
  have key:∀x,∀v:Nat->α,v n=x->Acc (RV R (n+1)) v:=by
   intro x;induction(h.apply x)with
   |intro x _ U7=>
    intro v;induction(ih.apply v)with
    |intro v _ ihv=>
     intro hv;refine⟨_,λv' nQ=>?_⟩;obtain⟨i,hi,h1,h2⟩:=nQ;by_cases e:i=n
     .subst e;exact U7 (v' i) (hv▸h1) v' rfl
     .exact ihv v' ⟨i,by omega,h1,h2⟩ ((h2 n (Ne.symm e)).trans hv)
  exact⟨λv=>key _ v rfl⟩
abbrev Mu:=Nat×((Nat->jU×Nat)×((lD×Nat)×Nat))
def Mu.lt (P:Program) (co cd n:Nat):Mu->Mu->Prop:=
 Prod.Lex (·<·) (Prod.Lex (RV (Prod.Lex (jU.lt P co cd) (·<·)) n) (Prod.Lex (Prod.Lex (lD.lt P) (·<·)) (·<·)))
theorem sx {β:Type} {r:α->α->Prop} {s:β->β->Prop} (hr:WellFounded r) (hs:WellFounded s):WellFounded (Prod.Lex r s):=⟨λx=>Prod.lexAccessible (hr.apply x.1) (λb=>hs.apply b) x.2⟩
theorem wV:WellFounded (λa b:Nat=>a<b):=Nat.lt_wfRel.wf
theorem Mu.wf (P:Program) (co cd n:Nat):WellFounded (Mu.lt P co cd n):=
 sx wV (sx (RV.wf (sx (jU.wf P co cd) wV) n) (sx (sx (lD.wf P) wV) wV))
theorem sy (P:Program) (q:Question) (n:Nat) (hn:0<n) (hq:∀x,q.cut x<n) (f:Nat->Sem α) (w:World):∃a d,a<n/\((choose q:Sem Nat)>>=f).run P w=(f a).run P (w.at d):=by
 by_cases hf:q.forced=true
 .exact⟨0,w.drawn,hn,by simp[choose,bind,Sem.bind,Sem.run,hf,World.at]⟩
 .exact⟨q.cut (w.tape w.drawn q),w.drawn+1,hq _,by simp[choose,bind,Sem.bind,Sem.run,hf,World.at]⟩
theorem ID (P:Program) (ready:List (Nat×CommCase×List Way)) (bE:ready≠ []) (bT:∀x∈ready,x.2.2≠ []) (w:World):
 ∃k c ws way d,(k,c,ws)∈ready/\way∈ws/\(do
  let a<-(choose (.select ready.length):Sem Nat)
  let(k,c,ws):=ready.getD a (0,default,[])
  let b<-choose (.extern "which waiting goroutine is the partner" ws.length)
  pure (k,c,ws.getD b .closed):Sem (Nat×CommCase×Way)).run P w=.ok (k,c,way) (w.at d):=by
 have hl:0<ready.length:=zCW.2 bE
 obtain⟨a,d,ha,e⟩:=sy P (.select ready.length) ready.length hl (λx=>by
  simp only[Question.cut]
  exact zFO _ hl) (λa=>do
   let(k,c,ws):=ready.getD a (0,default,[])
   let b<-choose (.extern "which waiting goroutine is the partner" ws.length)
   pure (k,c,ws.getD b .closed)) w
 obtain⟨⟨k,c,ws⟩,hx⟩:∃x,ready[a]?=some x:=⟨ready[a],zAJ ha⟩
 have hg:ready.getD a (0,default,[])=(k,c,ws):=by rw[List.getD_eq_getElem?_getD,hx];rfl
 have eu:=zAX hx;have Zp:0<ws.length:=zCW.2 (bT _ eu)
 obtain⟨b,d2,hb,e2⟩:=sy P (.extern "which waiting goroutine is the partner" ws.length) ws.length Zp (fun x=>by
  simp only[Question.cut];split
  .omega
  .exact zFO _ Zp) (λb=>(pure (k,c,ws.getD b .closed):Sem (Nat×CommCase×Way))) (w.at d)
 refine⟨k,c,ws,ws[b],d2,eu,List.getElem_mem hb,?_⟩;rw[e];simp only[hg];rw[e2];simp only[pure,Sem.run,List.getD_eq_getElem?_getD,zAJ hb,zAB];rfl
section
variable {P:Program} {gs:Array Goroutine} {w w₁:World} {sl:Option (Nat × Nat)} {i:Nat} {g g₂:Goroutine} {es:Array Event} {cases:Array CommCase} {shape:CommShape} {blocking:Bool}
theorem vd {c:Nat} {z:Value} {s r:Nat} {tm:Bool} (hc:w₁.heap[c]?=some (.chan 0 #[] false s r tm)) (gs:Array Goroutine):
 ways w₁ gs (rcase c z)=(partners gs c true).map λ(h,k)=>.partner h k:=by
 simp only[ways,rcase,hc,Array.size_empty,Nat.lt_irrefl,zBG];cases partners gs c true with
 |nil=>rfl
 |cons p ps=>rfl
theorem mN (hi:gs[i]?=some g) (h:stepG P (i==0) g w=.comm g₂ cases blocking shape w₁ es)
 (rC:∀(m:Nat) (cc:CommCase),cases[m]?=some cc->∃c z s r tm,cc=rcase c z/\w₁.heap[c]?=some (.chan 0 #[] false s r tm)/\
   ∀j k,(j,k)∈partners (gs.setIfInBounds i ph) c true->k=0/\j≠i/\∃gj vj zj IE,gs[j]?=some (parked gj #[scase c vj zj] IE))
 (bE:∃(m:Nat) (c:Nat) (z:Value),cases[m]?=some (rcase c z)/\partners (gs.setIfInBounds i ph) c true≠ []):
 ∃(m c:Nat) (z:Value) (s r:Nat) (tm:Bool) (j:Nat) (gj:Goroutine) (vj zj:Value) (IE:CommShape) (d:Nat),cases[m]?=some (rcase c z)/\w₁.heap[c]?=some (.chan 0 #[] false s r tm)/\j≠i/\gs[j]?=some (parked gj #[scase c vj zj] IE)/\
  runT P (crowd gs w sl) i=(.next (crowd ((gs.setIfInBounds j (gj.finishComm P #[scase c vj zj] IE 0 undef false)).setIfInBounds i (g₂.finishComm P cases shape m vj true)) ((w₁.at d).setChan c 0 #[] false (s+1) (r+1) tm) sl),
   MemOp.ofEvents i g.frame.fn g.frame.place es++#[{g:=j,fn:=gj.frame.fn,pos:=gj.frame.place,act:=.send c s},{g:=i,fn:=g₂.frame.fn,pos:=g₂.frame.place,act:=.recv c r 0},
    {g:=j,fn:=gj.frame.fn,pos:=gj.frame.place,act:=.sendDone c s},{g:=i,fn:=g₂.frame.fn,pos:=g₂.frame.place,act:=.recvDone c r}]):=by
 let ready:=(cases.zipIdx.toList.map λ(c,k)=>(k,c,ways w₁ (gs.setIfInBounds i ph) c)).filter λ(_,_,ws)=>!ws.isEmpty
 have eu:∀k c ws,(k,c,ws)∈ready->cases[k]?=some c/\ws=ways w₁ (gs.setIfInBounds i ph) c/\ws≠ []:=by
  intro k c ws hx;simp only[ready,zCX,zCL,Prod.exists,zAF]at hx;obtain⟨⟨c',k',hz,rfl,rfl,rfl⟩,hx⟩:=hx;exact⟨mem_of_zipIdx hz,rfl,λe=>by rw[e]at hx;simp at hx⟩
 have IF:ready≠ []:=by
  obtain⟨m,c,z,hm,hp⟩:=bE;obtain⟨c',z',s,r,tm,e,hc,_⟩:=rC m _ hm;simp only[rcase,CommCase.mk.injEq,Value.chan.injEq,zAA,zCB]at e;obtain⟨rfl,rfl⟩:=e
  have:(m,rcase c z,ways w₁ (gs.setIfInBounds i ph) (rcase c z))∈ready:=by
   simp only[ready,zCX,zCL,Prod.exists,zAF];refine⟨⟨rcase c z,m,?_,rfl,rfl,rfl⟩,?_⟩
   .rw[Array.mem_toList_iff,Array.mem_zipIdx_iff_getElem?];exact hm
   .rw[vd hc];cases hpp:partners (gs.setIfInBounds i ph) c true with
    |nil=>exact absurd hpp hp
    |cons p ps=>rfl
  intro e;rw[e]at this;cases this
 have za7:cases.any (illMade w₁)=false:=any_ill λcc ry=>by
  obtain⟨m,hm,rfl⟩:=zCH.1 ry;obtain⟨c,z,s,r,tm,e,hc,_⟩:=rC m _ (zAG hm);rw[e];exact made_recv z hc
 obtain⟨k,cc,ws,way,d,h1,h2,h3⟩:=ID P ready IF (λx hx=>(eu x.1 x.2.1 x.2.2 hx).2.2) w₁;obtain⟨hk,rfl,_⟩:=eu _ _ _ h1;obtain⟨c,z,s,r,tm,rfl,hc,Cf⟩:=rC k cc hk;rw[vd hc]at h2;obtain⟨⟨j,k0⟩,hj,rfl⟩:=zCL.1 h2;obtain⟨rfl,ru,gj,vj,zj,IE,hgj⟩:=Cf j k0 hj;refine⟨k,c,z,s,r,tm,j,gj,vj,zj,IE,d,hk,hc,ru,hgj,?_⟩;have yP:=stand_get (i:=i) ru hgj;have hfp:=finishPartner_at P (gs.setIfInBounds i ph) yP (cs:=#[scase c vj zj]) (sh:=IE) rfl 0 undef;have IG:(gs.setIfInBounds i ph).getD j default=parked gj #[scase c vj zj] IE:=by rw[zBD,yP];rfl
 have hov:offeredValue (gs.setIfInBounds i ph) j 0=vj:=by simp[offeredValue,yP,parked,scase]
 have pl:ready.isEmpty=false:=by
  cases hr:ready with
  |nil=>exact absurd hr IF
  |cons x xs=>rfl
 rw[runT_crowd_comm hi h];unfold communicate;rw[zAH]
 .dsimp only;split
  .rename_i he;exact absurd (show ready.isEmpty=true from he) (by rw[pl];exact Bool.false_ne_true)
  .split
   .rename_i heq;have e:=heq.symm.trans h3;cases e
   .rename_i k' c' zhO w' heq;have e:=heq.symm.trans h3;simp only[Result.ok.injEq,zAF]at e;obtain⟨⟨rfl,rfl,rfl⟩,rfl⟩:=e;have hc':(w₁.at d).heap[c]?=some (.chan 0 #[] false s r tm):=hc;simp[rcase,hc',crowd,hfp,IG,hov,set_stand2,finishComm_parked,scase,parked,World.setChan];rfl
 .rw[zEI];exact za7
end
end Go.aC
namespace Go.aC
open Go.Conc
open Go.ConcN (upd upd_same upd_ne sumTo sumTo_upd sumTo_congr le_sumTo)
variable {A:Nat->Prop} {es:Array Event} {g2 x:Goroutine} {i j:Nat} {kn own:Nat->Nat->Prop} {w1 w3:World} {α:Type}
structure iI (P:Program)where
 T:Nat
 co:Nat
 cd:Nat
 E:Nat->Bool
 vm:Nat->Value
 Cg:Nat->np
 yQ:Nat->(Nat->Bool)->np
 Out:(Nat->Bool)->np
 ne:co≠cd
 pos:0<T
 spw:∀k kn own g w,k<T->Cg k kn own g w->∃g2 child es K k0 o0,stepG P true g w=.spawn g2 child w es/\(∀e∈es,Eg kn own e)/\g2.status=.running/\child.status=.running/\
  (∀r,K r->kn r)/\(∀r,k0 r->kn r)/\(∀r,o0 r->own r)/\(∀r,o0 r->k0 r)/\(∀r,o0 r->¬K r)/\WT P co cd (vm k) (E k) K (λ_=>False) child w/\
  jf P (if k+1<T then Cg (k+1)else yQ 0 λ_=>false) k0 o0 g2 w
 Zq:∀n M kn own g w,n<T->yQ n M kn own g w->∃es z z',stepG P true g w=.comm g #[rcase co z,rcase cd z'] true .select w es/\(∀e∈es,Eg kn own e)/\
  (∀w2 m,Env kn w w2->m<T->E m=true->jf P (yQ n λa=>if a=m then true else M a) kn own (g.finishComm P #[rcase co z,rcase cd z'] .select (0:Nat) (vm m) true) w2)/\
  (∀w2 v,Env kn w w2->(n+1=T->∀m,m<T->M m=E m)->jf P (if n+1<T then yQ (n+1) M else Out M) kn own (g.finishComm P #[rcase co z,rcase cd z'] .select (1:Nat) v true) w2)
 II:∀M kn own g w d,Out M kn own g (World.at w d)->Out M kn own g w
inductive oh
 |run|po|pd|left
 deriving DecidableEq
structure St where
 k:Nat
 n:Nat
 M:Nat->Bool
 kn:Nat->Nat->Prop
 own:Nat->Nat->Prop
 cZ:Nat->oh
 x:Nat->jU
 q:Nat->Nat
 mp:Bool
 mn:lD
section
variable {P:Program} (G:iI P) (b:Nat)
def St.act (S:St) (i:Nat):Prop:=i=0\/(b<=i/\i<b+S.k/\S.cZ i≠ .left)
def St.At (S:St):np:=if S.k<G.T then G.Cg S.k else if S.n<G.T then G.yQ S.n S.M else G.Out S.M
def St.Wk (S:St) (gs:Array Goroutine) (w:World) (i:Nat):Prop:=
 (S.cZ i≠ .left->(S.x i).ok P G.co G.cd/\(S.x i).vm=G.vm (i-b)/\((S.x i).s=true->G.E (i-b)=true)/\S.kn i=(S.x i).kn/\S.own i=(S.x i).own/\Env (S.x i).kn (S.x i).w w/\S.q i=0)/\
 match S.cZ i with
 |.run=>gs[i]?=some (S.x i).g/\(S.x i).g.status=.running
 |.po=>(S.x i).s=true/\∃w1 z es,Env (S.x i).kn (S.x i).w w1/\Env (S.x i).kn w1 w/\stepG P false (S.x i).g w1=.comm (S.x i).g #[scase G.co (S.x i).vm z] true .send w1 es/\
    gs[i]?=some (parked (S.x i).g #[scase G.co (S.x i).vm z] .send)
 |.pd=>(S.x i).s=false/\∃v z q,gs[i]?=some (parked (S.x i).g #[scase G.cd v z] .send)/\QuitsIn P q (Conc.served (S.x i).g undef)
 |.left=>(S.x i).s=false/\∃g,gs[i]?=some g/\QuitsIn P (S.q i) g
def St.Mn (S:St) (gs:Array Goroutine) (w:World):Prop:=
 S.kn 0=S.mn.kn/\S.own 0=S.mn.own/\Env S.mn.kn S.mn.w w/\
 match S.mp with
 |true=>S.k=G.T/\S.n<G.T/\(∃w1 z z' es,G.yQ S.n S.M S.mn.kn S.mn.own S.mn.g w1/\Env S.mn.kn w1 w/\stepG P true S.mn.g w1=.comm S.mn.g #[rcase G.co z,rcase G.cd z'] true .select w1 es/\
   gs[0]?=some (parked S.mn.g #[rcase G.co z,rcase G.cd z'] .select))/\∀i,b<=i->i<b+S.k->S.cZ i≠ .po/\S.cZ i≠ .pd
 |false=>gs[0]?=some S.mn.g/\S.mn.g.status=.running/\S.mn.ok P/\S.mn.At=S.At G
def isChan (w:World) (c:Nat):Prop:=∃s tm,w.heap[c]?=some (.chan 0 #[] false s s tm)
structure Inv (S:St) (gs:Array Goroutine) (w:World) (t:Trace):Prop where
 b1:0<b
 size:gs.size=b+S.k
 kT:S.k<=G.T
 co:Co (S.act b) S.kn S.own w.heap.size t
 zp:isChan w G.co
 zq:isChan w G.cd
 FT:∀i,S.act b i->¬S.kn i G.co/\¬S.kn i G.cd
 old:∀i g,0<i->i<b->gs[i]?=some g->QuitsIn P (S.q i) g
 wk:∀i,b<=i->i<b+S.k->S.Wk G b gs w i
 main:S.Mn G b gs w
 cnt:sumTo G.T (λj=>if S.cZ (b+j)=.left then 1 else 0)=S.n
 IJ:∀i,b+S.k<=i->S.cZ i=.run
 marks:∀m,S.M m=true↔(m<S.k/\G.E m=true/\(S.x (b+m)).s=false)
 early:S.k<G.T->S.n=0/\∀m,S.M m=false
def St.mu (S:St):Mu:=
 (2*(G.T-S.k)+(S.k-S.n),(λi=>(S.x i,if S.cZ i=.run then 1 else 0)),((S.mn,if S.mp then 0 else 1),sumTo (b+G.T) S.q))
end
theorem isChan.lt {w:World} {c:Nat} (h:isChan w c):c<w.heap.size:=by obtain⟨s,tm,h⟩:=h;exact(zAD.1 h).1
theorem iJ (kn:Nat->Prop) (w:World) (d:Nat):Env kn w (w.at d):=⟨zAC _,λ_ _=>rfl,rfl,rfl⟩
section
variable {P:Program} {G:iI P} {b:Nat} {S:St} {gs:Array Goroutine} {w:World} {t:Trace}
theorem Inv.at (h:Inv G b S gs w t) (d:Nat):Inv G b S gs (w.at d) t where
 b1:=h.b1
 size:=h.size
 kT:=h.kT
 co:=h.co
 zp:=h.zp
 zq:=h.zq
 FT:=h.FT
 old:=h.old
 cnt:=h.cnt
 IJ:=h.IJ
 marks:=h.marks
 early:=h.early
 wk:=λi h1 h2=>by
   have hw:=h.wk i h1 h2;refine⟨λhn=>?_,?_⟩
   .obtain⟨a1,a2,a3,a4,a5,a6,a7⟩:=hw.1 hn;exact⟨a1,a2,a3,a4,a5,a6.trans (iJ _ _ _),a7⟩
   .have h2:=hw.2;cases hs:S.cZ i with
    |run=>rw[hs]at h2;exact h2
    |po=>
     rw[hs]at h2;obtain⟨c1,w1,z,es,c2,c3,c4,c5⟩:=h2;exact⟨c1,w1,z,es,c2,c3.trans (iJ _ _ _),c4,c5⟩
    |pd=>rw[hs]at h2;exact h2
    |left=>rw[hs]at h2;exact h2
 main:=by
  obtain⟨a1,a2,a3,a4⟩:=h.main;refine⟨a1,a2,a3.trans (iJ _ _ _),?_⟩;cases hm:S.mp with
  |true=>
   rw[hm]at a4;obtain⟨b1,b2,⟨w1,z,z',es,c1,c2,c3,c4⟩,b3⟩:=a4;exact⟨b1,b2,⟨w1,z,z',es,c1,c2.trans (iJ _ _ _),c3,c4⟩,b3⟩
  |false=>rw[hm]at a4;exact a4
theorem Inv.wW (h:Inv G b S gs w t) (hi:S.act b i) (hf:Fair (S.kn i) (S.own i) w w1 es) (hj:S.act b j) (bE:j≠i):Env (S.kn j) w w1:=
 ⟨hf.size,λr hr=>hf.others r (h.co.bound j hj r hr) λho=>h.co.dj i j hi hj (Ne.symm bE) r ho hr,hf.os,hf.out⟩
theorem Inv.zr (h:Inv G b S gs w t) (hi:S.act b i) (hf:Fair (S.kn i) (S.own i) w w1 es):isChan w1 G.co/\isChan w1 G.cd:=by
 obtain⟨n1,n2⟩:=h.FT i hi;obtain⟨s,tm,h1⟩:=h.zp;obtain⟨s',bF,h2⟩:=h.zq;exact⟨⟨s,tm,(hf.others _ h.zp.lt λx=>n1 (h.co.sub i hi _ x)).trans h1⟩,⟨s',bF,(hf.others _ h.zq.lt λx=>n2 (h.co.sub i hi _ x)).trans h2⟩⟩
theorem St.Wk.other {S S':St} {gs ff:Array Goroutine} {w w':World} (h:S.Wk G b gs w j) (e1:S'.cZ j=S.cZ j) (e2:S'.x j=S.x j) (e3:S'.q j=S.q j) (e4:S'.kn j=S.kn j) (e5:S'.own j=S.own j)
 (e6:ff[j]?=gs[j]?) (he:S.cZ j≠ .left->Env (S.kn j) w w'):S'.Wk G b ff w' j:=by
 refine⟨λhn=>?_,?_⟩
 .rw[e1]at hn;obtain⟨a1,a2,a3,a4,a5,a6,a7⟩:=h.1 hn;rw[e2,e3,e4,e5];exact⟨a1,a2,a3,a4,a5,a6.trans (a4▸he hn),a7⟩
 .have h2:=h.2;rw[e1,e2,e3,e6];cases hs:S.cZ j with
  |run=>rw[hs]at h2;exact h2
  |po=>
   rw[hs]at h2;obtain⟨c1,w1,z,es,c2,c3,c4,c5⟩:=h2;have hn:S.cZ j≠ .left:=by rw[hs];simp
   exact⟨c1,w1,z,es,c2,c3.trans ((h.1 hn).2.2.2.1▸he hn),c4,c5⟩
  |pd=>rw[hs]at h2;exact h2
  |left=>rw[hs]at h2;exact h2
theorem Inv.kinds (h:Inv G b S gs w t) (hj:gs[j]?=some x):
 ((x.status=.running\/x.status=.finished)/\¬(j=0/\S.mp=true))\/(j=0/\S.mp=true/\∃z z',x=parked S.mn.g #[rcase G.co z,rcase G.cd z'] .select)\/
 (b<=j/\j<b+S.k/\S.cZ j=.po/\∃z,x=parked (S.x j).g #[scase G.co (S.x j).vm z] .send)\/(b<=j/\j<b+S.k/\S.cZ j=.pd/\∃v z,x=parked (S.x j).g #[scase G.cd v z] .send):=by
 have az:j<b+S.k:=by rw[<-h.size];exact(zAD.1 hj).1
 have hb:=h.b1;rcases zBT j with rfl|gi
 .obtain⟨_,_,_,a4⟩:=h.main;cases hm:S.mp with
  |true=>
   rw[hm]at a4;obtain⟨_,_,⟨w1,z,z',es,_,_,_,c4⟩,_⟩:=a4;rw[hj]at c4;exact .inr (.inl ⟨rfl,rfl,z,z',zAY c4⟩)
  |false=>
   rw[hm]at a4;rw[hj]at a4;exact .inl ⟨.inl (zAY a4.1▸a4.2.1),by simp⟩
 .rcases zCS j b with wJ|wJ
  .exact .inl ⟨(h.old j x gi wJ hj).status,λe=>by omega⟩
  .have hw:=(h.wk j wJ az).2;cases hs:S.cZ j with
   |run=>rw[hs]at hw;rw[hj]at hw;exact .inl ⟨.inl (zAY hw.1▸hw.2),λe=>by omega⟩
   |po=>
    rw[hs]at hw;obtain⟨_,w1,z,es,_,_,_,c5⟩:=hw;rw[hj]at c5;exact .inr (.inr (.inl ⟨wJ,az,rfl,z,zAY c5⟩))
   |pd=>
    rw[hs]at hw;obtain⟨_,v,z,q,c5,_⟩:=hw;rw[hj]at c5;exact .inr (.inr (.inr ⟨wJ,az,rfl,v,z,zAY c5⟩))
   |left=>
    rw[hs]at hw;obtain⟨_,g,c1,c2⟩:=hw;rw[hj]at c1;exact .inl ⟨zAY c1▸c2.status,λe=>by omega⟩
theorem Inv.awake (h:Inv G b S gs w t):∀g∈gs,Conc.awake g:=by
 intro g hg;obtain⟨j,hj,rfl⟩:=zCH.1 hg;rcases h.kinds (zAG hj)with⟨h1,_⟩|⟨_,_,z,z',e⟩|⟨_,_,_,z,e⟩|⟨_,_,_,v,z,e⟩
 .exact awake_of (h1.imp id .inr)
 .rw[e];exact awake_of (.inr (.inl rfl))
 .rw[e];exact awake_of (.inr (.inl rfl))
 .rw[e];exact awake_of (.inr (.inl rfl))
theorem zs {f:α->α} {a:Array α} (h:∀(j:Nat) (x:α),a[j]?=some x->f x=x):a.map f=a:=by
 apply zFK;intro j;rw[zCM];cases hj:a[j]? with
 |none=>rfl
 |some x=>rw[zBJ,h j x hj]
theorem Inv.woken (h:Inv G b S gs w t) {w':World} (ho:isChan w' G.co) (hd:isChan w' G.cd) (g g':Goroutine):gs.map (Conc.woken P g g' w')=gs:=by
 obtain⟨s,tm,ho⟩:=ho;obtain⟨s',bF,hd⟩:=hd;refine zs λj x hj=>?_;unfold Conc.woken;split
 .rcases h.kinds hj with⟨h1,_⟩|⟨_,_,z,z',e⟩|⟨_,_,_,z,e⟩|⟨_,_,_,v,z,e⟩
  .exact again_running _ h1
  .rw[e];refine again_all_open λcc ry=>?_;have:cc=rcase G.co z\/cc=rcase G.cd z':=by simpa using ry
   rcases this with rfl|rfl
   .exact⟨_,_,_,_,_,_,_,rfl,ho⟩
   .exact⟨_,_,_,_,_,_,_,rfl,hd⟩
  .rw[e];exact again_send_open ho
  .rw[e];exact again_send_open hd
 .rfl
theorem Inv.qr (h:Inv G b S gs w t) (hj:gs[j]?=some x) (h0:¬(j=0/\S.mp=true)) (c:Nat):offersAt x c false=[]:=by
 rcases h.kinds hj with⟨h1,_⟩|⟨e1,e2,_⟩|⟨_,_,_,z,e⟩|⟨_,_,_,v,z,e⟩
 .exact offersAt_of_not_blocked (λe=>by rcases h1 with h1|h1<;>rw[h1]at e<;>cases e) _ _
 .exact absurd ⟨e1,e2⟩ h0
 .rw[e];exact offersAt_parked_send' ..
 .rw[e];exact offersAt_parked_send' ..
end
theorem aN (kn:Nat->Prop) (w:World):aG kn w w=kn:=by
 funext r;apply propext;unfold aG new;constructor
 .rintro(h|⟨h1,h2⟩)
  .exact h
  .omega
 .exact .inl
theorem gW (f:Nat->α) (i:Nat):upd f i (f i)=f:=by
 funext a;by_cases e:a=i
 .subst e;rw[upd_same]
 .rw[upd_ne _ _ e]
theorem Fair.refl {kn own:Nat->Prop} {w:World} (h:∀e∈es,Eg kn own e):Fair kn own w w es:=
 ⟨zAC _,λ_ _ _=>rfl,rfl,rfl,rfl,zAC _,by rw[aN,aN];exact h⟩
theorem Co.Vq {w:World} {t:Trace} (h:Co A kn own w.heap.size t) (hi:A i) (he:∀e∈es,Eg (kn i) (own i) e) (fn:FuncId) (pos:String):
 Co A kn own w.heap.size (t++MemOp.ofEvents i fn pos es):=by
 have:=h.step hi rfl (Fair.refl he) fn pos;rwa [aN,aN,gW,gW]at this
theorem Co.pB {A':Nat->Prop} {B:Nat} {t:Trace} (h:Co A kn own B t) (e:∀g,A' g↔A g):Co A' kn own B t:=by
 have:A'=A:=funext λg=>propext (e g);rw[this];exact h
section
variable {P:Program} {G:iI P} {b:Nat} {S S':St} {gs ff:Array Goroutine} {w w':World} {t:Trace} {sl:Option (Nat × Nat)}
def oq (G:iI P) (b:Nat) (S:St) (gs:Array Goroutine) (w:World) (sl:Option (Nat×Nat)) (t:Trace) (i:Nat):Prop:=
 ∃S' ff w' gT ops,runT P (crowd gs w sl) i=(.next (crowd ff w' gT),ops)/\Mu.lt P G.co G.cd (b+G.T) (S'.mu G b) (S.mu G b)/\Inv G b S' ff w' (t++ops)
theorem St.Mn.other (h:S.Mn G b gs w) (e1:S'.mn=S.mn) (e2:S'.mp=S.mp) (e3:S'.kn 0=S.kn 0) (e4:S'.own 0=S.own 0) (e5:S'.k=S.k) (e6:S'.n=S.n) (e7:S'.M=S.M) (hg:ff[0]?=gs[0]?) (he:Env (S.kn 0) w w')
 (bK:S.mp=true->∀i,b<=i->i<b+S.k->S'.cZ i≠ .po/\S'.cZ i≠ .pd):S'.Mn G b ff w':=by
 obtain⟨a1,a2,a3,a4⟩:=h;rw[a1]at he;refine⟨by rw[e3,e1];exact a1,by rw[e4,e1];exact a2,by rw[e1];exact a3.trans he,?_⟩;have ua:S'.At G=S.At G:=by unfold St.At;rw[e5,e6,e7]
 rw[e2];cases hm:S.mp with
 |true=>
  rw[hm]at a4;obtain⟨b1,b2,⟨w1,z,z',es,c1,c2,c3,c4⟩,b3⟩:=a4;refine⟨by rw[e5];exact b1,by rw[e6];exact b2,⟨w1,z,z',es,by rw[e6,e7,e1];exact c1,by rw[e1];exact c2.trans he,by rw[e1];exact c3,by rw[e1,hg];exact c4⟩,?_⟩;rw[e5];exact bK hm
 |false=>
  rw[hm]at a4;refine⟨by rw[hg,e1];exact a4.1,by rw[e1];exact a4.2.1,by rw[e1];exact a4.2.2.1,by rw[e1,ua];exact a4.2.2.2⟩
theorem aH {a:Array α} (x:α) (h:j≠i):(a.setIfInBounds i x)[j]?=a[j]?:=zEK (Ne.symm h)
theorem aP {a:Array α} (x:α) (h:i<a.size):(a.setIfInBounds i x)[i]?=some x:=by simp[h]
theorem kh {q q':Nat->Nat} {n:Nat} (hi:i<n) (h:q' i<q i) (ho:∀j,j≠i->q' j=q j):sumTo n q'<sumTo n q:=by
 have e:q'=upd q i (q' i):=by
  funext a;by_cases ea:a=i
  .subst ea;rw[upd_same]
  .rw[upd_ne _ _ ea,ho a ea]
 have:=sumTo_upd q (q' i) (λx=>x) hi;rw[<-e]at this;have this:sumTo n q'+q i=sumTo n q+q' i:=this;omega
theorem Inv.quit (h:Inv G b S gs w t) {g:Goroutine} (hi:gs[i]?=some g) (hr:g.status=.running) (gi:0<i) (hk:i<b\/(b<=i/\S.cZ i=.left)):oq G b S gs w sl t i:=by
 have az:i<b+S.k:=by rw[<-h.size];exact(zAD.1 hi).1
 have hq:QuitsIn P (S.q i) g:=by
  rcases hk with hk|⟨hk,hs⟩
  .exact h.old i g gi hk hi
  .have:=(h.wk i hk az).2;rw[hs]at this;obtain⟨_,g1,h1,h2⟩:=this;rw[hi]at h1;exact zAY h1▸h2
 have Po:¬S.act b i:=by
  rintro(e|⟨e1,e2,e3⟩)
  .omega
  .rcases hk with hk|⟨_,hs⟩
   .omega
   .exact e3 hs
 cases yR:S.q i with
 |zero=>rw[yR]at hq;rw[show g.status=.finished from hq]at hr;cases hr
 |succ n=>
  rw[yR]at hq;rcases hq with hf|⟨_,g',bK,uT⟩
  .rw[hf]at hr;cases hr
  have wX:(i==0)=false:=by simp;omega
  have aW:=runT_crowd_go (P:=P) (w:=w) (sl:=sl) hi (by rw[wX];exact bK w);rw[h.woken h.zp h.zq]at aW;have e0:t++MemOp.ofEvents i g.frame.fn g.frame.place #[]=t:=by simp[MemOp.ofEvents]
  refine⟨{S with q:=upd S.q i n},_,w,sl,_,aW,?_,?_⟩
  .refine .right _ (.right _ (.right _ ?_));refine kh (i:=i) (show i<b+G.T by have:=h.kT;omega) ?_ λj hj=>upd_ne _ _ hj;show upd S.q i n i<S.q i;rw[upd_same,yR];omega
  .rw[e0];refine⟨h.b1,by simpa using h.size,h.kT,h.co,h.zp,h.zq,h.FT,λj x hj wJ hx=>?_,λj hj ve=>?_,?_,h.cnt,h.IJ,h.marks,h.early⟩
   .by_cases e:j=i
    .subst e;rw[aP _ (zAD.1 hi).1]at hx;show QuitsIn P (upd S.q j n j) x;rw[upd_same,<-zAY hx];exact uT
    .rw[aH _ e]at hx;show QuitsIn P (upd S.q i n j) x;rw[upd_ne _ _ e];exact h.old j x hj wJ hx
   .by_cases e:j=i
    .subst e
     have hs:S.cZ j=.left:=by
      rcases hk with hk|⟨_,hs⟩
      .omega
      .exact hs
     have:=(h.wk j hj ve).2;rw[hs]at this;refine⟨λhn=>absurd hs hn,?_⟩;show(match S.cZ j with|.run=>_|.po=>_|.pd=>_|.left=>_);rw[hs];refine⟨this.1,g',aP _ (zAD.1 hi).1,?_⟩;show QuitsIn P (upd S.q j n j) g';rw[upd_same];exact uT
    .exact(h.wk j hj ve).other rfl rfl (upd_ne _ _ e) rfl rfl (aH _ e) λ_=>Env.refl _ _
   .exact h.main.other rfl rfl rfl rfl rfl rfl rfl (aH _ (by omega)) (Env.refl _ _) λhm=>by
     have:=h.main.2.2.2;rw[hm]at this;exact this.2.2.2
theorem Inv.Q8 (h:Inv G b S gs w t) (hm:S.mp=false) (ua:¬S.mn.At S.mn.kn S.mn.own S.mn.g w) (bK:stepG P true S.mn.g w=.go g2 w3 es) (hr:g2.status=.running)
 (hf:Fair S.mn.kn S.mn.own w w3 es):oq G b S gs w sl t 0:=by
 obtain⟨a1,a2,a3,a4⟩:=h.main;rw[hm]at a4;obtain⟨c1,c2,c3,c4⟩:=a4;have h0:S.act b 0:=.inl rfl;have hb:=h.b1;have Ei:Fair (S.kn 0) (S.own 0) w w3 es:=by rw[a1,a2];exact hf
 obtain⟨o1,o2⟩:=h.zr h0 Ei;have aW:=runT_crowd_go (P:=P) (w:=w) (sl:=sl) c1 (show stepG P (0==0) S.mn.g w=_ from bK);rw[h.woken o1 o2]at aW;have bW:0<gs.size:=(zAD.1 c1).1;refine⟨{S with kn:=upd S.kn 0 (aG (S.kn 0) w w3),own:=upd S.own 0 (aG (S.own 0) w w3),mn:=⟨S.mn.At,aG S.mn.kn w w3,aG S.mn.own w w3,g2,w3⟩},_,w3,sl,_,aW,?_,?_⟩
 .refine .right _ (.right _ (.left _ _ ?_));show Prod.Lex _ _ ((⟨S.mn.At,aG S.mn.kn w w3,aG S.mn.own w w3,g2,w3⟩:lD),if S.mp=true then 0 else 1) (S.mn,if S.mp=true then 0 else 1);exact .left _ _ ⟨c3,rfl,w,es,a3,ua,bK,rfl,rfl⟩
 .refine⟨hb,by simpa using h.size,h.kT,h.co.step h0 rfl Ei _ _,o1,o2,λj hj=>?_,λj x hj wJ hx=>?_,λj hj ve=>?_,?_,h.cnt,h.IJ,h.marks,h.early⟩
  .obtain⟨n1,n2⟩:=h.FT j hj;have l1:=h.zp.lt;have l2:=h.zq.lt;by_cases e:j=0
   .subst e;show¬upd S.kn 0 (aG (S.kn 0) w w3) 0 _/\¬upd S.kn 0 (aG (S.kn 0) w w3) 0 _;rw[upd_same];exact⟨λx=>x.elim n1 λx=>by have:=x.1;omega,λx=>x.elim n2 λx=>by have:=x.1;omega⟩
   .show¬upd S.kn 0 _ j _/\¬upd S.kn 0 _ j _;rw[upd_ne _ _ e];exact⟨n1,n2⟩
  .rw[aH _ (by omega)]at hx;exact h.old j x hj wJ hx
  .have e:j≠0:=by omega
   exact(h.wk j hj ve).other rfl rfl rfl (upd_ne _ _ e) (upd_ne _ _ e) (aH _ e) λhn=>h.wW h0 Ei (.inr ⟨hj,ve,hn⟩) e
  .refine⟨?_,?_,Env.refl _ _,?_⟩
   .show upd S.kn 0 (aG (S.kn 0) w w3) 0=aG S.mn.kn w w3;rw[upd_same,a1]
   .show upd S.own 0 (aG (S.own 0) w w3) 0=aG S.mn.own w w3;rw[upd_same,a2]
   .show(match S.mp with|true=>_|false=>_);rw[hm];refine⟨aP _ bW,hr,?_,c4⟩;have it:jf P S.mn.At S.mn.kn S.mn.own S.mn.g S.mn.w:=c3;cases it with
    |mk ok go=>exact go w g2 w3 es a3 ua bK
theorem Inv.IK (h:Inv G b S gs w t) (hb:b<=i) (hk:i<b+S.k) (hs:S.cZ i=.run) (bK:stepG P false (S.x i).g w=.go g2 w3 es) (hr:g2.status=.running)
 (hf:Fair (S.x i).kn (S.x i).own w w3 es):oq G b S gs w sl t i:=by
 have FU:=h.wk i hb hk;have hn:S.cZ i≠ .left:=by rw[hs];simp
 obtain⟨a1,a2,a3,a4,a5,a6,a7⟩:=FU.1 hn;have c:=FU.2;rw[hs]at c;obtain⟨c1,c2⟩:=c;have hi:S.act b i:=.inr ⟨hb,hk,hn⟩;have bi:=h.b1;have Ei:Fair (S.kn i) (S.own i) w w3 es:=by rw[a4,a5];exact hf
 obtain⟨o1,o2⟩:=h.zr hi Ei;have wX:(i==0)=false:=by simp;omega
 have aW:=runT_crowd_go (P:=P) (w:=w) (sl:=sl) c1 (by rw[wX];exact bK);rw[h.woken o1 o2]at aW;have bW:i<gs.size:=(zAD.1 c1).1;refine⟨{S with kn:=upd S.kn i (aG (S.kn i) w w3),own:=upd S.own i (aG (S.own i) w w3),x:=upd S.x i ⟨(S.x i).vm,(S.x i).s,aG (S.x i).kn w w3,aG (S.x i).own w w3,g2,w3⟩},_,w3,sl,_,aW,?_,?_⟩
 .refine .right _ (.left _ _ ⟨i,by have:=h.kT;omega,?_,λj hj=>?_⟩)
  .show Prod.Lex _ _ (upd S.x i _ i,if S.cZ i=oh.run then 1 else 0) (S.x i,if S.cZ i=oh.run then 1 else 0);rw[upd_same];exact .left _ _ ⟨a1,rfl,w,a6,.inl ⟨es,bK,rfl,rfl,rfl⟩⟩
  .show(upd S.x i _ j,_)=(S.x j,_)
   rw[upd_ne _ _ hj]
 .refine⟨bi,by simpa using h.size,h.kT,h.co.step hi rfl Ei _ _,o1,o2,λj hj=>?_,λj x hj wJ hx=>?_,λj hj ve=>?_,?_,h.cnt,h.IJ,λm=>?_,h.early⟩
  .obtain⟨n1,n2⟩:=h.FT j hj;have l1:=h.zp.lt;have l2:=h.zq.lt;by_cases e:j=i
   .subst e;show¬upd S.kn j (aG (S.kn j) w w3) j _/\¬upd S.kn j (aG (S.kn j) w w3) j _;rw[upd_same];exact⟨λx=>x.elim n1 λx=>by have:=x.1;omega,λx=>x.elim n2 λx=>by have:=x.1;omega⟩
   .show¬upd S.kn i _ j _/\¬upd S.kn i _ j _;rw[upd_ne _ _ e];exact⟨n1,n2⟩
  .rw[aH _ (by omega)]at hx;exact h.old j x hj wJ hx
  .by_cases e:j=i
   .subst e;refine⟨λ_=>?_,?_⟩
    .show jU.ok P G.co G.cd (upd S.x j _ j)/\_;simp only[upd_same];have it:WT P G.co G.cd (S.x j).vm (S.x j).s (S.x j).kn (S.x j).own (S.x j).g (S.x j).w:=a1;refine⟨?_,a2,a3,by rw[a4],by rw[a5],Env.refl _ _,a7⟩;cases it with
     |mk ok go Q7=>exact go w g2 w3 es a6 bK
    .show(match S.cZ j with|.run=>_|.po=>_|.pd=>_|.left=>_);rw[hs];simp only[upd_same];exact⟨aP _ bW,hr⟩
   .exact(h.wk j hj ve).other rfl (upd_ne _ _ e) rfl (upd_ne _ _ e) (upd_ne _ _ e) (aH _ e) λhn=>h.wW hi Ei (.inr ⟨hj,ve,hn⟩) e
  .have e:(0:Nat)≠i:=by omega
   exact h.main.other rfl rfl (upd_ne _ _ e) (upd_ne _ _ e) rfl rfl rfl (aH _ e) (h.wW hi Ei (.inl rfl) e) λhm=>by
    have:=h.main.2.2.2;rw[hm]at this;exact this.2.2.2
  .rw[h.marks m];show _↔_/\_/\(upd S.x i _ (b+m)).s=false;by_cases e:b+m=i
   .rw[<-e,upd_same]
   .rw[upd_ne _ _ e]
end
end Go.aC
namespace Go.aC
open Go.Conc
open Go.ConcN (upd upd_same upd_ne sumTo sumTo_upd sumTo_congr le_sumTo sumTo_le)
variable {A:Nat->Prop} {B c i j q r s:Nat} {Vu es:Array Event} {g:Goroutine} {kn own:Nat->Nat->Prop} {tm:Bool} {v z z1 z2:Value} {wm:World} {x1 x2 x3 x4:MemOp}
section
variable {P:Program} {G:iI P} {b:Nat} {S S':St} {gs ff:Array Goroutine} {w w':World} {t t':Trace} {sl:Option (Nat × Nat)}
theorem Vr (t u:Trace) (x y:MemOp):t++((u.push x).push y)=(t++u)++#[x,y]:=by
 apply Array.ext';simp
theorem Inv.FV (h:Inv G b S gs w t) (hm:S.mp=false) (hk:S.k<G.T) (ua:G.Cg S.k S.mn.kn S.mn.own S.mn.g w):oq G b S gs w sl t 0:=by
 obtain⟨a1,a2,a3,a4⟩:=h.main;rw[hm]at a4;obtain⟨c1,c2,c3,c4⟩:=a4;have h0:S.act b 0:=.inl rfl;have hb:=h.b1;obtain⟨Vb,Zr⟩:=h.early hk;obtain⟨g2,child,es,K,k0,o0,s1,s2,s3,s4,s5,s6,s7,s8,s9,MJ,s11⟩:=G.spw _ _ _ _ _ hk ua;have aW:=runT_crowd_spawn (P:=P) (w:=w) (sl:=sl) c1 (show stepG P (0==0) S.mn.g w=_ from s1);have bW:0<gs.size:=(zAD.1 c1).1;have hc:gs.size=b+S.k:=h.size;have rC:S.cZ gs.size=.run:=h.IJ _ (by omega);have Q9:=h.co.Vq h0 (es:=es) (by rw[a1,a2];exact s2) S.mn.g.frame.fn S.mn.g.frame.place
 have Po:¬S.act b gs.size:=by
  rintro(e|⟨_,e,_⟩)
  .omega
  .omega
 have Re:=Q9.spawn h0 (c:=gs.size) (by omega) Po (K:=K) (k0:=k0) (o0:=o0) (by rw[a1];exact s5) (by rw[a1];exact s6) (by rw[a2];exact s7) s8 s9
  (x:={g:=0,fn:=S.mn.g.frame.fn,pos:=S.mn.g.frame.place,act:=.go gs.size}) (y:={g:=gs.size,fn:=child.frame.fn,pos:=S.mn.g.frame.place,act:=.start}) ⟨rfl,rfl⟩ ⟨rfl,rfl⟩
 obtain⟨nc1,nc2⟩:=h.FT 0 h0;rw[a1]at nc1 nc2
 have Vs:∀j,j≠0->j<gs.size->((gs.setIfInBounds 0 g2).push child)[j]?=gs[j]?:=λj hj az=>by
  rw[zBQ];simp only[zEG];rw[zAH (by omega),aH _ hj]
 refine⟨{S with k:=S.k+1,kn:=upd (upd S.kn 0 k0) gs.size K,own:=upd (upd S.own 0 o0) gs.size λ_=>False,x:=upd S.x gs.size ⟨G.vm S.k,G.E S.k,K,λ_=>False,child,w⟩,q:=upd S.q gs.size 0,mn:=⟨if S.k+1<G.T then G.Cg (S.k+1)else G.yQ 0 λ_=>false,k0,o0,g2,w⟩},_,w,sl,_,aW,?_,?_⟩
 .refine .left _ _ ?_;show 2*(G.T-(S.k+1))+(S.k+1-S.n)<2*(G.T-S.k)+(S.k-S.n)
  omega
 .refine⟨hb,by simp[hc];omega,hk,?_,h.zp,h.zq,λj hj=>?_,λj x hj wJ hx=>?_,λj hj ve=>?_,?_,h.cnt,λi hi=>h.IJ i (by show _;have:b+(S.k+1)<=i:=hi;omega),λm=>?_,λyN=>⟨Vb,Zr⟩⟩
  .rw[Vr];refine Re.pB λg=>?_;show(g=0\/(b<=g/\g<b+(S.k+1)/\S.cZ g≠ .left))↔((g=0\/(b<=g/\g<b+S.k/\S.cZ g≠ .left))\/g=gs.size)
   constructor
   .rintro(e|⟨e1,e2,e3⟩)
    .exact .inl (.inl e)
    .by_cases e:g=gs.size
     .exact .inr e
     .exact .inl (.inr ⟨e1,by omega,e3⟩)
   .rintro((e|⟨e1,e2,e3⟩)|e)
    .exact .inl e
    .exact .inr ⟨e1,by omega,e3⟩
    .rw[e];exact .inr ⟨by omega,by omega,by rw[rC];simp⟩
  .by_cases e:j=gs.size
   .subst e;show¬upd (upd S.kn 0 k0) gs.size K gs.size _/\¬upd (upd S.kn 0 k0) gs.size K gs.size _;rw[upd_same];exact⟨λx=>nc1 (s5 _ x),λx=>nc2 (s5 _ x)⟩
   .show¬upd (upd S.kn 0 k0) gs.size K j _/\¬upd (upd S.kn 0 k0) gs.size K j _;rw[upd_ne _ _ e];by_cases e0:j=0
    .subst e0;rw[upd_same];exact⟨λx=>nc1 (s6 _ x),λx=>nc2 (s6 _ x)⟩
    .rw[upd_ne _ _ e0];refine h.FT j ?_;rcases hj with hj|⟨hj1,ou,Pp⟩
     .exact absurd hj e0
     .exact .inr ⟨hj1,by have:j<b+(S.k+1):=ou;omega,Pp⟩
  .rw[Vs j (by omega) (by omega)]at hx;show QuitsIn P (upd S.q gs.size 0 j) x;rw[upd_ne _ _ (by omega)];exact h.old j x hj wJ hx
  .by_cases e:j=gs.size
   .subst e;refine⟨λ_=>?_,?_⟩
    .simp only[upd_same];exact⟨MJ,by rw[hc];simp,λx=>by rw[hc];simpa using x,trivial,trivial,Env.refl _ _,trivial⟩
    .show(match S.cZ gs.size with|.run=>_|.po=>_|.pd=>_|.left=>_);rw[rC];simp only[upd_same];refine⟨?_,s4⟩;rw[zBQ];simp
   .have zbb:j<b+S.k:=by have:j<b+(S.k+1):=ve;omega
    have e0:j≠0:=by omega
    exact(h.wk j hj zbb).other rfl (upd_ne _ _ e) (upd_ne _ _ e) (by show upd (upd S.kn 0 k0) gs.size K j=_;rw[upd_ne _ _ e,upd_ne _ _ e0]) (by show upd (upd S.own 0 o0) gs.size _ j=_;rw[upd_ne _ _ e,upd_ne _ _ e0])
     (Vs j e0 (by omega)) λ_=>Env.refl _ _
  .have e:(0:Nat)≠gs.size:=by omega
   refine⟨?_,?_,Env.refl _ _,?_⟩
   .show upd (upd S.kn 0 k0) gs.size K 0=k0;rw[upd_ne _ _ e,upd_same]
   .show upd (upd S.own 0 o0) gs.size (λ_=>False) 0=o0;rw[upd_ne _ _ e,upd_same]
   .show(match S.mp with|true=>_|false=>_);rw[hm];refine⟨?_,s3,s11,?_⟩
    .rw[zBQ];simp only[zEG];rw[zAH (by omega)];exact aP _ bW
    .show(if S.k+1<G.T then G.Cg (S.k+1)else G.yQ 0 λ_=>false)=(if S.k+1<G.T then G.Cg (S.k+1)else if S.n<G.T then G.yQ S.n S.M else G.Out S.M)
     rw[Vb,zAI G.pos,show S.M=λ_=>false from funext Zr]
  .show S.M m=true↔(m<S.k+1/\G.E m=true/\(upd S.x gs.size ⟨G.vm S.k,G.E S.k,K,λ_=>False,child,w⟩ (b+m)).s=false)
   rw[Zr m];constructor
   .intro x;cases x
   .rintro⟨x1,x2,x3⟩;exfalso;by_cases e:m=S.k
    .subst e;rw[hc,upd_same]at x3;simp only at x3;rw[x2]at x3;cases x3
    .rw[upd_ne _ _ (by omega)]at x3;have:=(h.marks m).2 ⟨by omega,x2,x3⟩;rw[Zr m]at this;cases this
theorem Inv.Vt (h:Inv G b S gs w t) (hb:b<=i) (hk:i<b+S.k) (hs:S.cZ i=.run) (hm:S.mp=false) {st:oh} (bK:st=.po\/st=.pd) {g':Goroutine} (Vp:∀e∈es,Eg (S.x i).kn (S.x i).own e)
 (aW:runT P (crowd gs w sl) i=(.next (crowd (gs.setIfInBounds i g') w sl),MemOp.ofEvents i (S.x i).g.frame.fn (S.x i).g.frame.place es))
 (FU:St.Wk G b {S with cZ:=upd S.cZ i st} (gs.setIfInBounds i g') w i):oq G b S gs w sl t i:=by
 have hn:S.cZ i≠ .left:=by rw[hs];simp
 have zu:st≠ .left:=by rcases bK with rfl|rfl<;>simp
 obtain⟨a1,a2,a3,a4,a5,a6,a7⟩:=(h.wk i hb hk).1 hn;have hi:S.act b i:=.inr ⟨hb,hk,hn⟩;have bi:=h.b1
 have ov:∀j,(upd S.cZ i st j=.left↔S.cZ j=.left):=λj=>by
  by_cases e:j=i
  .subst e;rw[upd_same];exact⟨λx=>absurd x zu,λx=>absurd x hn⟩
  .rw[upd_ne _ _ e]
 refine⟨{S with cZ:=upd S.cZ i st},_,w,sl,_,aW,?_,?_⟩
 .refine .right _ (.left _ _ ⟨i,by have:=h.kT;omega,?_,λj hj=>?_⟩)
  .show Prod.Lex _ _ (S.x i,if upd S.cZ i st i=oh.run then 1 else 0) (S.x i,if S.cZ i=oh.run then 1 else 0);rw[upd_same,hs,zAI rfl,zAH (by rcases bK with rfl|rfl<;>simp)];exact .right _ Nat.zero_lt_one
  .show(S.x j,if upd S.cZ i st j=oh.run then 1 else 0)=_;rw[upd_ne _ _ hj]
 .refine⟨bi,by simpa using h.size,h.kT,?_,h.zp,h.zq,λj hj=>h.FT j ?_,λj x hj wJ hx=>?_,λj hj ve=>?_,?_,?_,λj hj=>?_,h.marks,h.early⟩
  .refine(h.co.Vq hi (by rw[a4,a5];exact Vp) _ _).pB λg=>?_;show(g=0\/(b<=g/\g<b+S.k/\upd S.cZ i st g≠ .left))↔(g=0\/(b<=g/\g<b+S.k/\S.cZ g≠ .left))
   rw[Ne,ov]
  .rcases hj with hj|⟨h1,h2,h3⟩
   .exact .inl hj
   .exact .inr ⟨h1,h2,λx=>h3 ((ov j).2 x)⟩
  .rw[aH _ (by omega)]at hx;exact h.old j x hj wJ hx
  .by_cases e:j=i
   .subst e;exact FU
   .exact(h.wk j hj ve).other (upd_ne _ _ e) rfl rfl rfl rfl (aH _ e) λ_=>Env.refl _ _
  .exact h.main.other rfl rfl rfl rfl rfl rfl rfl (aH _ (by omega)) (Env.refl _ _) λx=>by rw[hm]at x;cases x
  .rw[<-h.cnt];refine sumTo_congr λj _=>?_;show(if upd S.cZ i st (b+j)=oh.left then 1 else 0)=_;by_cases e:S.cZ (b+j)=.left
   .rw[zAI ((ov _).2 e),zAI e]
   .rw[zAH λx=>e ((ov _).1 x),zAH e]
  .show upd S.cZ i st j=.run;have:b+S.k<=j:=hj;rw[upd_ne _ _ (by omega)];exact h.IJ j hj
theorem Inv.Ej (h:Inv G b S gs w t) (hc:c=G.co\/c=G.cd) (hh:∀r,r≠c->w'.heap[r]?=w.heap[r]?) (bW:w'.heap.size=w.heap.size/\w'.os=w.os/\w'.output=w.output) (hj:S.act b j):Env (S.kn j) w w':=
 ⟨by omega,λr hr=>hh r λe=>by
   obtain⟨n1,n2⟩:=h.FT j hj;subst e;rcases hc with rfl|rfl
   .exact n1 hr
   .exact n2 hr,bW.2.1,bW.2.2⟩
theorem Inv.Ek (h:Inv G b S gs w t) (hb:b<=j) (hk:j<b+S.k) (hs:S.cZ j=.run\/S.cZ j=.po) (Eb:(S.x j).s=true) {w1:World} {es1:Array Event} (e1:Env (S.x j).kn (S.x j).w w1) (e2:Env (S.x j).kn w1 w)
 (bJ:stepG P false (S.x j).g w1=.comm (S.x j).g #[scase G.co (S.x j).vm z] true .send w1 es1)
 (hn:S.n<G.T) (Pq:S.k=G.T) (zv:G.yQ S.n S.M S.mn.kn S.mn.own S.mn.g wm) (em:Env S.mn.kn wm w)
 (Ch:stepG P true S.mn.g wm=.comm S.mn.g #[rcase G.co z1,rcase G.cd z2] true .select wm Vu)
 (hh:∀r,r≠G.co->w'.heap[r]?=w.heap[r]?) (bW:w'.heap.size=w.heap.size/\w'.os=w.os/\w'.output=w.output) (lE:isChan w' G.co)
 (g0:ff[0]?=some (S.mn.g.finishComm P #[rcase G.co z1,rcase G.cd z2] .select (0:Nat) (S.x j).vm true)) (gj:ff[j]?=some (Conc.served (S.x j).g undef)) (go:∀i,i≠0->i≠j->ff[i]?=gs[i]?) (sA:ff.size=gs.size)
 (Rf:Co (S.act b) S.kn S.own w'.heap.size t'):∃S',Mu.lt P G.co G.cd (b+G.T) (S'.mu G b) (S.mu G b)/\Inv G b S' ff w' t':=by
 have D9:S.cZ j≠ .left:=by rcases hs with hs|hs<;>rw[hs]<;>simp
 obtain⟨a1,a2,a3,a4,a5,a6,a7⟩:=(h.wk j hb hk).1 D9;obtain⟨m1,m2,m3,_⟩:=h.main;have bi:=h.b1;have hj:S.act b j:=.inr ⟨hb,hk,D9⟩;have env:∀{i},S.act b i->Env (S.kn i) w w':=λhi=>h.Ej (.inl rfl) hh bW hi;obtain⟨es,y,y',l1,l2,l3,_⟩:=G.Zq _ _ _ _ _ _ hn zv;rw[Ch]at l1;simp only[GStep.comm.injEq,zBU,zBR,rcase,CommCase.mk.injEq,zCB,zDB]at l1;obtain⟨⟨rfl,rfl⟩,rfl⟩:=l1;have hE:=a3 Eb;have Zs:j-b<G.T:=by omega
 have ov:∀i,(upd S.cZ j .run i=.left↔S.cZ i=.left):=λi=>by
  by_cases e:i=j
  .subst e;rw[upd_same];exact⟨λx=>(by cases x),λx=>absurd x D9⟩
  .rw[upd_ne _ _ e]
 refine⟨{S with M:=λa=>if a=j-b then true else S.M a,cZ:=upd S.cZ j .run,x:=upd S.x j ⟨(S.x j).vm,false,(S.x j).kn,(S.x j).own,Conc.served (S.x j).g undef,w1⟩,mp:=false,mn:=⟨G.yQ S.n λa=>if a=j-b then true else S.M a,S.mn.kn,S.mn.own,S.mn.g.finishComm P #[rcase G.co z1,rcase G.cd z2] .select (0:Nat) (S.x j).vm true,w'⟩},?_,?_⟩
 .refine .right _ (.left _ _ ⟨j,by omega,?_,λi hi=>?_⟩)
  .show Prod.Lex _ _ (upd S.x j _ j,_) (S.x j,_);rw[upd_same];exact .left _ _ ⟨a1,rfl,w1,e1,.inr ⟨z,es1,bJ,rfl,rfl,rfl,rfl,rfl⟩⟩
  .show(upd S.x j _ i,if upd S.cZ j .run i=oh.run then 1 else 0)=_;rw[upd_ne _ _ hi,upd_ne _ _ hi]
 .refine⟨bi,by rw[sA];exact h.size,h.kT,?_,lE,?_,λi hi=>h.FT i ?_,λi x hi El hx=>?_,λi hi MK=>?_,?_,?_,λi hi=>?_,λm=>?_,λx=>by have:S.k<G.T:=x;omega⟩
  .refine Rf.pB λg=>?_;show(g=0\/(b<=g/\g<b+S.k/\upd S.cZ j .run g≠ .left))↔(g=0\/(b<=g/\g<b+S.k/\S.cZ g≠ .left))
   rw[Ne,ov]
  .obtain⟨s,tm,hc⟩:=h.zq;exact⟨s,tm,(hh _ (Ne.symm G.ne)).trans hc⟩
  .rcases hi with hi|⟨h1,h2,h3⟩
   .exact .inl hi
   .exact .inr ⟨h1,h2,λx=>h3 ((ov i).2 x)⟩
  .rw[go i (by omega) (by omega)]at hx;exact h.old i x hi El hx
  .by_cases e:i=j
   .subst e;refine⟨λ_=>?_,?_⟩
    .simp only[upd_same];refine⟨?_,a2,λx=>(by cases x),a4,a5,e2.trans (a4▸env hj),a7⟩;have it:WT P G.co G.cd (S.x i).vm (S.x i).s (S.x i).kn (S.x i).own (S.x i).g (S.x i).w:=a1;cases it with
     |mk ok go Q7=>exact Q7 w1 z es1 e1 bJ
    .show(match upd S.cZ i .run i with|.run=>_|.po=>_|.pd=>_|.left=>_);simp only[upd_same];exact⟨gj,rfl⟩
   .exact(h.wk i hi MK).other (upd_ne _ _ e) (upd_ne _ _ e) rfl rfl rfl (go i (by omega) e) λhn=>env (.inr ⟨hi,MK,hn⟩)
  .refine⟨m1,m2,Env.refl _ _,g0,rfl,?_,?_⟩
   .show jf P _ S.mn.kn S.mn.own _ w';rw[a2];exact l3 w' (j-b) (em.trans (m1▸env (.inl rfl))) Zs hE
   .show G.yQ S.n _=(if S.k<G.T then G.Cg S.k else if S.n<G.T then G.yQ S.n _ else G.Out _)
    rw[zAH (by omega),zAI hn]
  .rw[<-h.cnt];refine sumTo_congr λi _=>?_;show(if upd S.cZ j .run (b+i)=oh.left then 1 else 0)=_;by_cases e:S.cZ (b+i)=.left
   .rw[zAI ((ov _).2 e),zAI e]
   .rw[zAH λx=>e ((ov _).1 x),zAH e]
  .show upd S.cZ j .run i=.run;have:b+S.k<=i:=hi;rw[upd_ne _ _ (by omega)];exact h.IJ i hi
  .show(if m=j-b then true else S.M m)=true↔(m<S.k/\G.E m=true/\(upd S.x j _ (b+m)).s=false)
   by_cases e:m=j-b
   .have e':b+m=j:=by omega
    rw[zAI e,e',upd_same];exact⟨λ_=>⟨by omega,by rw[e];exact hE,rfl⟩,λ_=>rfl⟩
   .rw[zAH e,upd_ne _ _ (by omega)];exact h.marks m
theorem Inv.zx (h:Inv G b S gs w t) (hb:b<=j) (hk:j<b+S.k) (hs:S.cZ j≠ .left) (Eb:(S.x j).s=false) (hq:QuitsIn P q (Conc.served (S.x j).g undef))
 (hn:S.n<G.T) (Pq:S.k=G.T) (zv:G.yQ S.n S.M S.mn.kn S.mn.own S.mn.g wm) (em:Env S.mn.kn wm w)
 (Ch:stepG P true S.mn.g wm=.comm S.mn.g #[rcase G.co z1,rcase G.cd z2] true .select wm Vu)
 (hh:∀r,r≠G.cd->w'.heap[r]?=w.heap[r]?) (bW:w'.heap.size=w.heap.size/\w'.os=w.os/\w'.output=w.output) (Un:isChan w' G.cd)
 (g0:ff[0]?=some (S.mn.g.finishComm P #[rcase G.co z1,rcase G.cd z2] .select (1:Nat) v true)) (gj:ff[j]?=some (Conc.served (S.x j).g undef)) (go:∀i,i≠0->i≠j->ff[i]?=gs[i]?) (sA:ff.size=gs.size)
 (Rf:Co (λg=>S.act b g/\g≠j) S.kn S.own w'.heap.size t'):∃S',Mu.lt P G.co G.cd (b+G.T) (S'.mu G b) (S.mu G b)/\Inv G b S' ff w' t':=by
 obtain⟨m1,m2,m3,_⟩:=h.main;have bi:=h.b1;have env:∀{i},S.act b i->Env (S.kn i) w w':=λhi=>h.Ej (.inr rfl) hh bW hi;obtain⟨es,y,y',l1,l2,_,l3⟩:=G.Zq _ _ _ _ _ _ hn zv;rw[Ch]at l1;simp only[GStep.comm.injEq,zBU,zBR,rcase,CommCase.mk.injEq,zCB,zDB]at l1;obtain⟨⟨rfl,rfl⟩,rfl⟩:=l1;have Zs:j-b<G.T:=by omega
 have hM:S.n+1=G.T->∀m,m<G.T->S.M m=G.E m:=by
  intro Pr m hm
  have ML:(S.x (b+m)).s=false:=by
   by_cases e:m=j-b
   .rw[show b+m=j by omega];exact Eb
   .have hl:S.cZ (b+m)=.left:=by
     refine zBF λD9=>?_;have e1:=sumTo_upd (λa=>S.cZ (b+a)) oh.left (λs=>if s=oh.left then 1 else 0) Zs;have e2:=sumTo_upd (upd (λa=>S.cZ (b+a)) (j-b) oh.left) oh.left (λs=>if s=oh.left then 1 else 0) hm;rw[upd_ne _ _ e]at e2;rw[h.cnt]at e1;simp only[zAH D9,show b+(j-b)=j by omega,zAH hs,zAI]at e1 e2;have:=sumTo_le (f:=λa=>if upd (upd (λa=>S.cZ (b+a)) (j-b) oh.left) m oh.left a=oh.left then 1 else 0) (c:=1) (j:=G.T) λi _=>by split<;>omega
     omega
    have hw:=(h.wk (b+m) (by omega) (by omega)).2;rw[hl]at hw;exact hw.1
  have:=h.marks m;rw[ML]at this;cases hE:G.E m with
  |true=>exact this.2 ⟨by omega,hE,rfl⟩
  |false=>
   cases hMm:S.M m with
   |false=>rfl
   |true=>have:=(this.1 hMm).2.1;rw[hE]at this;cases this
 refine⟨{S with n:=S.n+1,cZ:=upd S.cZ j .left,q:=upd S.q j q,mp:=false,mn:=⟨if S.n+1<G.T then G.yQ (S.n+1) S.M else G.Out S.M,S.mn.kn,S.mn.own,S.mn.g.finishComm P #[rcase G.co z1,rcase G.cd z2] .select (1:Nat) v true,w'⟩},?_,?_⟩
 .refine .left _ _ ?_;show 2*(G.T-S.k)+(S.k-(S.n+1))<2*(G.T-S.k)+(S.k-S.n)
  omega
 .refine⟨bi,by rw[sA];exact h.size,h.kT,?_,?_,Un,λi hi=>h.FT i ?_,λi x hi El hx=>?_,λi hi MK=>?_,?_,?_,λi hi=>?_,h.marks,λx=>by have:S.k<G.T:=x;omega⟩
  .refine Rf.pB λg=>?_;show(g=0\/(b<=g/\g<b+S.k/\upd S.cZ j .left g≠ .left))↔((g=0\/(b<=g/\g<b+S.k/\S.cZ g≠ .left))/\g≠j)
   by_cases e:g=j
   .subst e;rw[upd_same];simp;omega
   .rw[upd_ne _ _ e];simp[e]
  .obtain⟨s,tm,hc⟩:=h.zp;exact⟨s,tm,(hh _ G.ne).trans hc⟩
  .rcases hi with hi|⟨h1,h2,h3⟩
   .exact .inl hi
   .have h3:upd S.cZ j .left i≠ .left:=h3;by_cases e:i=j
    .subst e;rw[upd_same]at h3;exact absurd rfl h3
    .rw[upd_ne _ _ e]at h3;exact .inr ⟨h1,h2,h3⟩
  .rw[go i (by omega) (by omega)]at hx;show QuitsIn P (upd S.q j q i) x;rw[upd_ne _ _ (by omega)];exact h.old i x hi El hx
  .by_cases e:i=j
   .subst e;refine⟨λx=>?_,?_⟩
    .have x:upd S.cZ i .left i≠ .left:=x;rw[upd_same]at x;exact absurd rfl x
    .show(match upd S.cZ i .left i with|.run=>_|.po=>_|.pd=>_|.left=>_);simp only[upd_same];exact⟨Eb,_,gj,hq⟩
   .exact(h.wk i hi MK).other (upd_ne _ _ e) rfl (upd_ne _ _ e) rfl rfl (go i (by omega) e) λhn=>env (.inr ⟨hi,MK,hn⟩)
  .refine⟨m1,m2,Env.refl _ _,g0,rfl,?_,?_⟩
   .show jf P _ S.mn.kn S.mn.own _ w';exact l3 w' v (em.trans (m1▸env (.inl rfl))) hM
   .show _=(if S.k<G.T then G.Cg S.k else if S.n+1<G.T then G.yQ (S.n+1) S.M else G.Out S.M)
    rw[zAH (show¬S.k<G.T by omega)]
  .have:=sumTo_upd (λa=>S.cZ (b+a)) oh.left (λs=>if s=oh.left then 1 else 0) Zs;rw[h.cnt]at this;have e:b+(j-b)=j:=by omega
   simp only[e,zAH hs,zAI]at this;rw[<-this];show sumTo G.T (λa=>if upd S.cZ j .left (b+a)=oh.left then 1 else 0)=_;rw[zDH];refine sumTo_congr λa _=>?_;by_cases ea:a=j-b
   .subst ea;rw[e,upd_same,upd_same]
   .rw[upd_ne _ _ ea,upd_ne _ _ (by omega)]
  .show upd S.cZ j .left i=.run;have:b+S.k<=i:=hi;rw[upd_ne _ _ (by omega)];exact h.IJ i hi
end
theorem sB {f:Nat->Nat}:∀{n:Nat},(∀j,j<n->f j=1)->sumTo n f=n
 |0,_=>rfl
 |n+1,h=>by
  have:=sB (n:=n) λj hj=>h j (by omega);simp only[sumTo,this,h n (by omega)]
section
variable {P:Program} {G:iI P} {b:Nat} {S S':St} {gs ff:Array Goroutine} {w w':World} {t t':Trace} {sl:Option (Nat × Nat)}
theorem Co.comm (h:Co A kn own B t) (hc:c<B) (h1:x1.act=.send c s) (h2:x2.act=.recv c r 0) (h3:x3.act=.sendDone c s) (h4:x4.act=.recvDone c r):
 Co A kn own B (t++#[x1,x2,x3,x4]):=by
 refine h.mute (λop bO=>?_) (λop bO=>?_) λop bO=>?_
 all_goals
  have:op=x1\/op=x2\/op=x3\/op=x4:=by simpa using bO
  rcases this with rfl|rfl|rfl|rfl
 .rw[h1];rfl
 .rw[h2];rfl
 .rw[h3];rfl
 .rw[h4];rfl
 .rw[h1];exact⟨by simp,by simp⟩
 .rw[h2];exact⟨by simp,by simp⟩
 .rw[h3];exact⟨by simp,by simp⟩
 .rw[h4];exact⟨by simp,by simp⟩
 .rw[h1];exact hc
 .rw[h2];exact hc
 .rw[h3];exact hc
 .rw[h4];exact hc
theorem g?_of_touch {t:Trace} {a:Touch} (h:touchAt t i=some a):i<t.size:=by
 obtain⟨op,h1,_⟩:=fO h;exact lt_size_of_getElem? h1
theorem Co.left (h:Co A kn own B t) (hc:c<B) (h1:x1.act=.send c s) (g1:x1.g=j) (h2:x2.act=.recv c s 0) (h3:x3.act=.sendDone c s) (h4:x4.act=.recvDone c s) (g4:x4.g=0):
 Co (λg=>A g/\g≠j) kn own B (t++#[x1,x2,x3,x4]):=by
 have lE:=h.comm hc h1 h2 h3 h4;refine lE.drop λi a hi hg=>?_
 have az:i<t.size:=by
  rcases fK hi with hi|⟨op,bO,_,hb⟩
  .exact g?_of_touch hi
  .exfalso;have:op=x1\/op=x2\/op=x3\/op=x4:=by simpa using bO
   rcases this with rfl|rfl|rfl|rfl
   .rw[h1]at hb;cases hb
   .rw[h2]at hb;cases hb
   .rw[h3]at hb;cases hb
   .rw[h4]at hb;cases hb
 rw[g?_old az]at hg;exact handed (u:=#[x1,x2,x3,x4]) lE.calm (k:=0) (m:=3) (x:=x1) (y:=x4) rfl g1 h1 rfl g4 h4 hg
abbrev Vv (i:Nat) (fi:FuncId) (pi:String) (j:Nat) (fj:FuncId) (pj:String) (c s:Nat):Array MemOp:=
 #[{g:=i,fn:=fi,pos:=pi,act:=.send c s},{g:=j,fn:=fj,pos:=pj,act:=.recv c s 0},{g:=i,fn:=fi,pos:=pi,act:=.sendDone c s},{g:=j,fn:=fj,pos:=pj,act:=.recvDone c s}]
theorem Co.Ps (h:Co A kn own B t) (hc:c<B) (i:Nat) (fi:FuncId) (pi:String) (j:Nat) (fj:FuncId) (pj:String) (s:Nat):Co A kn own B (t++Vv i fi pi j fj pj c s):=
 h.comm hc rfl rfl rfl rfl
theorem Co.Pu (h:Co A kn own B t) (hc:c<B) (i:Nat) (fi:FuncId) (pi:String) (fj:FuncId) (pj:String) (s:Nat):Co (λg=>A g/\g≠i) kn own B (t++Vv i fi pi 0 fj pj c s):=
 h.left hc rfl rfl rfl rfl rfl rfl
theorem gL (w:World) {cap:Nat} {buf:Array Value} {cl:Bool} (h:r≠c):(w.setChan c cap buf cl s q tm).heap[r]?=w.heap[r]?:=by
 show(w.heap.setIfInBounds c _)[r]?=_;exact aH _ h
theorem dm (w:World) (c cap s q:Nat) (buf:Array Value) (cl tm:Bool):(w.setChan c cap buf cl s q tm).heap.size=w.heap.size:=by
 show(w.heap.setIfInBounds c _).size=_;simp
theorem fP {w:World} (h:c<w.heap.size):isChan (w.setChan c 0 #[] false s s tm) c:=⟨s,tm,by
 show(w.heap.setIfInBounds c _)[c]?=_;exact aP _ h⟩
theorem Ci {a:Array Goroutine} {x y:Goroutine} (ru:j≠i) (hi:i<a.size) (hj:j<a.size):
 ((a.setIfInBounds j x).setIfInBounds i y)[i]?=some y/\((a.setIfInBounds j x).setIfInBounds i y)[j]?=some x/\(∀k,k≠i->k≠j->((a.setIfInBounds j x).setIfInBounds i y)[k]?=a[k]?)/\((a.setIfInBounds j x).setIfInBounds i y).size=a.size:=by
 refine⟨aP _ (by simpa using hi),?_,λk h1 h2=>?_,by simp⟩
 .rw[aH _ ru];exact aP _ hj
 .rw[aH _ h1,aH _ h2]
theorem Inv.vg (h:Inv G b S gs w t) (hk:i<b+S.k) (hm:S.mp=false) (hc:isChan w c) (hi:gs[i]?=some g) (gi:0<i) (bK:stepG P false g w=.comm g #[scase c v z] true .send w es):
 runT P (crowd gs w sl) i=(.next (crowd (gs.setIfInBounds i (parked g #[scase c v z] .send)) w sl),MemOp.ofEvents i g.frame.fn g.frame.place es):=by
 have wX:(i==0)=false:=by simp;omega
 obtain⟨s,tm,hc⟩:=hc;refine crowd_waits hi (by rw[wX];exact bK) λcc ry=>?_;have:cc=scase c v z:=by simpa using ry
 rw[this];refine ways_send_none hc (zAR _) (partners_nil λj x hx=>?_);rcases getElem?_stand _ _ _ _ hx with⟨_,rfl⟩|⟨_,hx⟩
 .exact offersAt_ph _ _
 .exact h.qr hx (λe=>by rw[hm]at e;cases e.2) c
theorem Inv.vh (h:Inv G b S gs w t) (hm:S.mp=true) {k:Nat} (MI:gs[0]?=some (parked S.mn.g #[rcase G.co z1,rcase G.cd z2] .select)) (hk:(c=G.co/\k=0)\/(c=G.cd/\k=1))
 (hc:w.heap[c]?=some (.chan 0 #[] false s s tm)) (hi:gs[i]?=some g) (gi:0<i) (bK:stepG P false g w=.comm g #[scase c v z] true .send w es):
 runT P (crowd gs w sl) i=(.next (crowd ((gs.setIfInBounds 0 (S.mn.g.finishComm P #[rcase G.co z1,rcase G.cd z2] .select k v true)).setIfInBounds i (Conc.served g undef)) (w.setChan c 0 #[] false (s+1) (s+1) tm) sl),
  MemOp.ofEvents i g.frame.fn g.frame.place es++#[{g:=i,fn:=g.frame.fn,pos:=g.frame.place,act:=.send c s},{g:=0,fn:=S.mn.g.frame.fn,pos:=S.mn.g.frame.place,act:=.recv c s 0},
   {g:=i,fn:=g.frame.fn,pos:=g.frame.place,act:=.sendDone c s},{g:=0,fn:=S.mn.g.frame.fn,pos:=S.mn.g.frame.place,act:=.recvDone c s}]):=by
 have wX:(i==0)=false:=by simp;omega
 have jS:∃z',(#[rcase G.co z1,rcase G.cd z2]:Array CommCase)[k]?=some (rcase c z'):=by
  rcases hk with⟨rfl,rfl⟩|⟨rfl,rfl⟩
  .exact⟨z1,rfl⟩
  .exact⟨z2,rfl⟩
 obtain⟨z',jS⟩:=jS
 have hu:∀(m:Nat) (cc:CommCase),m≠k->(#[rcase G.co z1,rcase G.cd z2]:Array CommCase)[m]?=some cc->cc.chan≠ .chan (some c):=by
  intro m cc jg ry;have bE:=G.ne;match m with
  |0=>
   have:cc=rcase G.co z1:=by simpa using ry.symm
   rw[this];rcases hk with⟨rfl,rfl⟩|⟨rfl,rfl⟩
   .exact absurd rfl jg
   .simp[rcase,bE]
  |1=>
   have:cc=rcase G.cd z2:=by simpa using ry.symm
   rw[this];rcases hk with⟨rfl,rfl⟩|⟨rfl,rfl⟩
   .simp[rcase,Ne.symm bE]
   .exact absurd rfl jg
  |m+2=>simp at ry
 have FW:offersAt (parked S.mn.g #[rcase G.co z1,rcase G.cd z2] .select) c false=[k]:=offersAt_parked_at jS hu
 have hp:partners (gs.setIfInBounds i ph) c false=[(0,k)]:=by
  rw[partners_one (stand_get (by omega) MI) λj x hj hx=>?_,FW]
  .rfl
  .rcases getElem?_stand _ _ _ _ hx with⟨_,rfl⟩|⟨_,hx⟩
   .exact offersAt_ph _ _
   .exact h.qr hx (λe=>hj e.1) c
 exact crowd_send_meets_sel hi (by rw[wX];exact bK) hc (by omega) MI jS hp
theorem Inv.Cj (h:Inv G b S gs w t) (hb:b<=i) (hk:i<b+S.k) (hs:S.cZ i=.run):oq G b S gs w sl t i:=by
 have FU:=h.wk i hb hk;have hn:S.cZ i≠ .left:=by rw[hs];simp
 obtain⟨a1,a2,a3,a4,a5,a6,a7⟩:=FU.1 hn;have c:=FU.2;rw[hs]at c;obtain⟨c1,c2⟩:=c;have bi:=h.b1;have hi:S.act b i:=.inr ⟨hb,hk,hn⟩;have bW:i<gs.size:=(zAD.1 c1).1;have Pe:WT P G.co G.cd (S.x i).vm (S.x i).s (S.x i).kn (S.x i).own (S.x i).g (S.x i).w:=a1;cases Pe with
 |mk ok go Q7=>
  rcases ok w a6 with⟨g2,w3,es,h1,h2,h3⟩|⟨z,es,h1,h2,h3⟩|⟨v,z,es,q,h1,h2,h3,h4⟩
  .exact h.IK hb hk hs h1 h2 h3
  .cases hm:S.mp with
   |false=>
    have aW:=h.vg (sl:=sl) hk hm h.zp c1 (by omega) h2;refine h.Vt hb hk hs hm (.inl rfl) h3 aW ⟨λ_=>⟨a1,a2,a3,a4,a5,a6,a7⟩,?_⟩;show(match upd S.cZ i .po i with|.run=>_|.po=>_|.pd=>_|.left=>_);rw[upd_same];exact⟨h1,w,z,es,a6,Env.refl _ _,h2,aP _ bW⟩
   |true=>
    obtain⟨m1,m2,m3,m4⟩:=h.main;rw[hm]at m4;obtain⟨k1,k2,⟨wm,z1,z2,Vu,n1,n2,n3,n4⟩,_⟩:=m4;obtain⟨s,tm,Ed⟩:=h.zp;have aW:=h.vh (sl:=sl) hm n4 (.inl ⟨rfl,rfl⟩) Ed c1 (by omega) h2;obtain⟨q1,q2,q3,q4⟩:=Ci (a:=gs) (i:=i) (j:=0) (x:=S.mn.g.finishComm P #[rcase G.co z1,rcase G.cd z2] .select (0:Nat) (S.x i).vm true) (y:=Conc.served (S.x i).g undef) (by omega) bW (by omega);have az:=h.zp.lt
    obtain⟨S',r1,r2⟩:=h.Ek (w':=w.setChan G.co 0 #[] false (s+1) (s+1) tm) hb hk (.inl hs) h1 a6 (Env.refl _ _) h2 k2 k1 n1 n2 n3 (λr hr=>gL w hr) ⟨dm ..,rfl,rfl⟩ (fP az) q2 q1 (λk e1 e2=>q3 k e2 e1) q4
     (by rw[dm];exact(h.co.Vq hi (es:=es) (by rw[a4,a5];exact h3) (S.x i).g.frame.fn (S.x i).g.frame.place).Ps az i (S.x i).g.frame.fn (S.x i).g.frame.place 0 S.mn.g.frame.fn S.mn.g.frame.place s)
    exact⟨S',_,_,_,_,aW,r1,by rw[<-zFL];exact r2⟩
  .cases hm:S.mp with
   |false=>
    have aW:=h.vg (sl:=sl) hk hm h.zq c1 (by omega) h2;refine h.Vt hb hk hs hm (.inr rfl) h3 aW ⟨λ_=>⟨a1,a2,a3,a4,a5,a6,a7⟩,?_⟩;show(match upd S.cZ i .pd i with|.run=>_|.po=>_|.pd=>_|.left=>_);rw[upd_same];exact⟨h1,v,z,q,aP _ bW,h4⟩
   |true=>
    obtain⟨m1,m2,m3,m4⟩:=h.main;rw[hm]at m4;obtain⟨k1,k2,⟨wm,z1,z2,Vu,n1,n2,n3,n4⟩,_⟩:=m4;obtain⟨s,tm,Ed⟩:=h.zq;have aW:=h.vh (sl:=sl) hm n4 (.inr ⟨rfl,rfl⟩) Ed c1 (by omega) h2;obtain⟨q1,q2,q3,q4⟩:=Ci (a:=gs) (i:=i) (j:=0) (x:=S.mn.g.finishComm P #[rcase G.co z1,rcase G.cd z2] .select (1:Nat) v true) (y:=Conc.served (S.x i).g undef) (by omega) bW (by omega);have az:=h.zq.lt
    obtain⟨S',r1,r2⟩:=h.zx (w':=w.setChan G.cd 0 #[] false (s+1) (s+1) tm) (v:=v) hb hk hn h1 h4 k2 k1 n1 n2 n3 (λr hr=>gL w hr) ⟨dm ..,rfl,rfl⟩ (fP az) q2 q1 (λk e1 e2=>q3 k e2 e1) q4
     (by rw[dm];exact(h.co.Vq hi (es:=es) (by rw[a4,a5];exact h3) (S.x i).g.frame.fn (S.x i).g.frame.place).Pu az i (S.x i).g.frame.fn (S.x i).g.frame.place S.mn.g.frame.fn S.mn.g.frame.place s)
    exact⟨S',_,_,_,_,aW,r1,by rw[<-zFL];exact r2⟩
theorem Inv.Ck (h:Inv G b S gs w t) (hm:S.mp=false) (Pq:S.k=G.T) (hn:S.n<G.T) (zv:G.yQ S.n S.M S.mn.kn S.mn.own S.mn.g w):oq G b S gs w sl t 0:=by
 obtain⟨m1,m2,m3,m4⟩:=h.main;rw[hm]at m4;obtain⟨c1,c2,c3,c4⟩:=m4;have h0:S.act b 0:=.inl rfl;have hb:=h.b1;obtain⟨es,z1,z2,l1,l2,_,_⟩:=G.Zq _ _ _ _ _ _ hn zv;have l1':stepG P (0==0) S.mn.g w=.comm S.mn.g #[rcase G.co z1,rcase G.cd z2] true .select w es:=l1;have bW:0<gs.size:=(zAD.1 c1).1;obtain⟨so,tmo,Rh⟩:=h.zp;obtain⟨sd,tmd,Ri⟩:=h.zq;have Rj:=h.co.Vq h0 (es:=es) (by rw[m1,m2];exact l2) S.mn.g.frame.fn S.mn.g.frame.place
 have mem:∀c j k,(j,k)∈partners (gs.setIfInBounds 0 ph) c true->k=0/\j≠0/\b<=j/\j<b+S.k/\
  ((c=G.co/\S.cZ j=.po/\∃z,gs[j]?=some (parked (S.x j).g #[scase G.co (S.x j).vm z] .send))\/(c=G.cd/\S.cZ j=.pd/\∃v z,gs[j]?=some (parked (S.x j).g #[scase G.cd v z] .send))):=by
  intro c j k ve;obtain⟨x,hx,hk⟩:=mem_partners.1 ve;rcases getElem?_stand _ _ _ _ hx with⟨_,rfl⟩|⟨hj,hx⟩
  .rw[offersAt_ph]at hk;cases hk
  rcases h.kinds hx with⟨h1,_⟩|⟨e1,e2,_⟩|⟨e1,e2,e3,z,e⟩|⟨e1,e2,e3,v,z,e⟩
  .rw[offersAt_of_not_blocked (λe=>by rcases h1 with h1|h1<;>rw[h1]at e<;>cases e)]at hk;cases hk
  .rw[hm]at e2;cases e2
  .rw[e,offersAt_parked_send]at hk;split at hk
   .rename_i ec;exact⟨by simpa using hk,hj,e1,e2,.inl ⟨ec.symm,e3,z,e▸hx⟩⟩
   .cases hk
  .rw[e,offersAt_parked_send]at hk;split at hk
   .rename_i ec;exact⟨by simpa using hk,hj,e1,e2,.inr ⟨ec.symm,e3,v,z,e▸hx⟩⟩
   .cases hk
 have wY:∀(m:Nat) (cc:CommCase),(#[rcase G.co z1,rcase G.cd z2]:Array CommCase)[m]?=some cc->(m=0/\cc=rcase G.co z1)\/(m=1/\cc=rcase G.cd z2):=by
  intro m cc ry;match m with
  |0=>exact .inl ⟨rfl,by simpa using ry.symm⟩
  |1=>exact .inr ⟨rfl,by simpa using ry.symm⟩
  |m+2=>simp at ry
 by_cases IL:partners (gs.setIfInBounds 0 ph) G.co true=[]/\partners (gs.setIfInBounds 0 ph) G.cd true=[]
 ·
  have aW:=crowd_waits (P:=P) (sl:=sl) c1 l1' λcc ry=>by
   have:cc=rcase G.co z1\/cc=rcase G.cd z2:=by simpa using ry
   rcases this with rfl|rfl
   .exact ways_recv_none Rh IL.1
   .exact ways_recv_none Ri IL.2
  refine⟨{S with mp:=true},_,w,sl,_,aW,?_,?_⟩
  .refine .right _ (.right _ (.left _ _ ?_));show Prod.Lex _ _ (S.mn,0) (S.mn,if S.mp=true then 0 else 1);rw[hm];exact .right _ Nat.zero_lt_one
  .refine⟨hb,by simpa using h.size,h.kT,Rj,h.zp,h.zq,h.FT,λj x hj wJ hx=>?_,λj hj ve=>?_,?_,h.cnt,h.IJ,h.marks,h.early⟩
   .rw[aH _ (by omega)]at hx;exact h.old j x hj wJ hx
   .exact(h.wk j hj ve).other rfl rfl rfl rfl rfl (aH _ (by omega)) λ_=>Env.refl _ _
   .refine⟨m1,m2,m3,Pq,hn,⟨w,z1,z2,es,zv,Env.refl _ _,l1,aP _ bW⟩,λi hi MK=>?_⟩;have MK:i<b+S.k:=MK;have hw:=(h.wk i hi MK).2;refine⟨λe=>?_,λe=>?_⟩
    .have e:S.cZ i=.po:=e;rw[e]at hw;obtain⟨_,w1,z,es1,_,_,_,hg⟩:=hw;have:(i,0)∈partners (gs.setIfInBounds 0 ph) G.co true:=mem_partners.2 ⟨_,stand_get (by omega) hg,by rw[offersAt_parked_send];simp⟩;rw[IL.1]at this;cases this
    .have e:S.cZ i=.pd:=e;rw[e]at hw;obtain⟨_,v,z,q,hg,_⟩:=hw;have:(i,0)∈partners (gs.setIfInBounds 0 ph) G.cd true:=mem_partners.2 ⟨_,stand_get (by omega) hg,by rw[offersAt_parked_send];simp⟩;rw[IL.2]at this;cases this
 ·
  obtain⟨m,c,z,s,r,tm,j,gj,vj,zj,IE,d,k1,k2,k3,k4,aW⟩:=mN (P:=P) (sl:=sl) c1 l1' (λm cc ry=>by
   rcases wY m cc ry with⟨_,rfl⟩|⟨_,rfl⟩
   .refine⟨_,_,_,_,_,rfl,Rh,λj k ve=>?_⟩;obtain⟨e1,e2,_,_,⟨_,_,z,e⟩|⟨e,_⟩⟩:=mem _ j k ve
    .exact⟨e1,e2,_,_,_,_,e⟩
    .exact absurd e G.ne
   .refine⟨_,_,_,_,_,rfl,Ri,λj k ve=>?_⟩;obtain⟨e1,e2,_,_,⟨e,_⟩|⟨_,_,v,z,e⟩⟩:=mem _ j k ve
    .exact absurd e.symm G.ne
    .exact⟨e1,e2,_,_,_,_,e⟩) (by
   by_cases h1:partners (gs.setIfInBounds 0 ph) G.co true=[]
   .exact⟨1,_,_,rfl,λe=>IL ⟨h1,e⟩⟩
   .exact⟨0,_,_,rfl,h1⟩)
  have Vw:j<gs.size:=(zAD.1 k4).1;have Rk:=h.kinds k4
  have same:∀{g:Goroutine} {cs:Array CommCase} {sh:CommShape},parked gj #[scase c vj zj] IE=parked g cs sh->gj.frame=g.frame/\#[scase c vj zj]=cs/\IE=sh/\Conc.served gj undef=Conc.served g undef:=by
   intro g cs sh e;obtain⟨f1,f2,f3,f4,f5⟩:=gj;obtain⟨g1,g2,g3,g4,g5⟩:=g;simp only[parked,Goroutine.mk.injEq,zAA,zAF,zCB]at e;obtain⟨rfl,rfl,rfl,rfl,rfl⟩:=e;exact⟨rfl,rfl,rfl,rfl⟩
  rcases Rk with⟨e1,_⟩|⟨e1,_⟩|⟨e1,e2,e3,z',e⟩|⟨e1,e2,e3,v,z',e⟩
  .rcases e1 with e1|e1<;>cases e1
  .exact absurd e1 k3
  .obtain⟨f1,f2,f3,f4⟩:=same e;simp only[zBU,zBR,scase,CommCase.mk.injEq,Value.chan.injEq,zAA,zDB]at f2;obtain⟨rfl,rfl,rfl⟩:=f2;subst f3
   have BO:m=0:=by
    rcases wY m _ k1 with⟨e0,_⟩|⟨_,hz⟩
    .exact e0
    .simp only[rcase,CommCase.mk.injEq,Value.chan.injEq,zAA]at hz;exact absurd hz.1 G.ne
   subst BO;have FU:=(h.wk j e1 e2).2;rw[e3]at FU;obtain⟨x1,w1,zw,es1,x2,x3,x4,x5⟩:=FU;rw[Rh]at k2;simp only[zAA,Obj.chan.injEq,zCB]at k2;obtain⟨rfl,rfl,rfl⟩:=k2;obtain⟨q1,q2,q3,q4⟩:=Ci (a:=gs) (i:=0) (j:=j) (x:=Conc.served (S.x j).g undef) (y:=S.mn.g.finishComm P #[rcase G.co z1,rcase G.cd z2] .select (0:Nat) (S.x j).vm true) k3 bW Vw;have az:G.co<(w.at d).heap.size:=h.zp.lt
   obtain⟨S',r1,r2⟩:=h.Ek (w':=(w.at d).setChan G.co 0 #[] false (so+1) (so+1) tmo) e1 e2 (.inr e3) x1 x2 x3 x4 hn Pq zv (Env.refl _ _) l1 (λr hr=>gL (w.at d) hr) ⟨dm ..,rfl,rfl⟩ (fP az) q1 q2 q3 q4
    (by rw[dm];exact Rj.Ps az j (S.x j).g.frame.fn (S.x j).g.frame.place 0 S.mn.g.frame.fn S.mn.g.frame.place so)
   refine⟨S',_,_,_,_,aW,r1,?_⟩;rw[<-zFL,finishComm_send,f4,f1];exact r2
  .obtain⟨f1,f2,f3,f4⟩:=same e;simp only[zBU,zBR,scase,CommCase.mk.injEq,Value.chan.injEq,zAA,zDB]at f2;obtain⟨rfl,rfl,rfl⟩:=f2;subst f3
   have BO:m=1:=by
    rcases wY m _ k1 with⟨_,hz⟩|⟨e0,_⟩
    .simp only[rcase,CommCase.mk.injEq,Value.chan.injEq,zAA]at hz;exact absurd hz.1.symm G.ne
    .exact e0
   subst BO;have FU:=(h.wk j e1 e2).2;rw[e3]at FU;obtain⟨x1,v2,zw,q,x2,x3⟩:=FU;rw[Ri]at k2;simp only[zAA,Obj.chan.injEq,zCB]at k2;obtain⟨rfl,rfl,rfl⟩:=k2;obtain⟨q1,q2,q3,q4⟩:=Ci (a:=gs) (i:=0) (j:=j) (x:=Conc.served (S.x j).g undef) (y:=S.mn.g.finishComm P #[rcase G.co z1,rcase G.cd z2] .select (1:Nat) vj true) k3 bW Vw;have az:G.cd<(w.at d).heap.size:=h.zq.lt
   obtain⟨S',r1,r2⟩:=h.zx (w':=(w.at d).setChan G.cd 0 #[] false (sd+1) (sd+1) tmd) (v:=vj) e1 e2 (by rw[e3];simp) x1 x3 hn Pq zv (Env.refl _ _) l1 (λr hr=>gL (w.at d) hr) ⟨dm ..,rfl,rfl⟩ (fP az) q1 q2 q3 q4
    (by rw[dm];exact Rj.Pu az j (S.x j).g.frame.fn (S.x j).g.frame.place S.mn.g.frame.fn S.mn.g.frame.place sd)
   refine⟨S',_,_,_,_,aW,r1,?_⟩;rw[<-zFL,finishComm_send,f4,f1];exact r2
end
section
variable {P:Program} {G:iI P} {b:Nat} {S S':St} {gs ff:Array Goroutine} {w w':World} {t t':Trace} {sl:Option (Nat × Nat)}
theorem Inv.nT (h:Inv G b S gs w t):S.n<=G.T:=by
 rw[<-h.cnt];have:=sumTo_le (f:=λj=>if S.cZ (b+j)=.left then 1 else 0) (c:=1) (j:=G.T) λi _=>by split<;>omega
 omega
theorem Inv.Vx (h:Inv G b S gs w t):∃(i:Nat) (g:Goroutine),gs[i]?=some g/\g.status=.running:=by
 obtain⟨m1,m2,m3,m4⟩:=h.main;cases hm:S.mp with
 |false=>rw[hm]at m4;exact⟨0,_,m4.1,m4.2.1⟩
 |true=>
  rw[hm]at m4;obtain⟨k1,k2,_,k3⟩:=m4
  have:∃j,j<G.T/\S.cZ (b+j)≠ .left:=by
   refine zBF λhn=>?_;have:sumTo G.T (λj=>if S.cZ (b+j)=.left then 1 else 0)=G.T:=sB λj hj=>zAI (zBF λhs=>hn ⟨j,hj,hs⟩);rw[h.cnt]at this;omega
  obtain⟨j,hj,hs⟩:=this;obtain⟨n1,n2⟩:=k3 (b+j) (by omega) (by omega);have hw:=(h.wk (b+j) (by omega) (by omega)).2;cases bK:S.cZ (b+j)with
  |run=>rw[bK]at hw;exact⟨_,_,hw.1,hw.2⟩
  |po=>exact absurd bK n1
  |pd=>exact absurd bK n2
  |left=>exact absurd bK hs
def kP (G:iI P) (S:St) (w:World):Prop:=S.k=G.T/\S.n=G.T/\S.mp=false/\G.Out S.M S.mn.kn S.mn.own S.mn.g w
theorem Inv.zbd (h:Inv G b S gs w t) (hi:gs[i]?=some g) (hr:g.status=.running):kP G S w\/oq G b S gs w sl t i:=by
 have az:i<b+S.k:=by rw[<-h.size];exact(zAD.1 hi).1
 rcases zBT i with rfl|gi
 .obtain⟨m1,m2,m3,m4⟩:=h.main;cases hm:S.mp with
  |true=>
   rw[hm]at m4;obtain⟨_,_,⟨_,_,_,_,_,_,_,k⟩,_⟩:=m4;rw[hi]at k;rw[zAY k]at hr;cases hr
  |false=>
   rw[hm]at m4;obtain⟨c1,c2,c3,c4⟩:=m4
   have IM:S.mn.At S.mn.kn S.mn.own S.mn.g w->kP G S w\/oq G b S gs w sl t 0:=by
    intro ua;rw[c4]at ua;unfold St.At at ua;by_cases hk:S.k<G.T
    .rw[zAI hk]at ua;exact .inr (h.FV hm hk ua)
    .rw[zAH hk]at ua;have Pq:S.k=G.T:=by have:=h.kT;omega
     by_cases hn:S.n<G.T
     .rw[zAI hn]at ua;exact .inr (h.Ck hm Pq hn ua)
     .rw[zAH hn]at ua;exact .inl ⟨Pq,by have:=h.nT;omega,hm,ua⟩
   by_cases hA:S.mn.At S.mn.kn S.mn.own S.mn.g w
   .exact IM hA
   .have Rm:jf P S.mn.At S.mn.kn S.mn.own S.mn.g S.mn.w:=c3;cases Rm with
    |mk ok go=>
     rcases ok w m3 with hA|⟨g2,w3,es,h1,h2,h3⟩
     .exact IM hA
     .exact .inr (h.Q8 hm hA h1 h2 h3)
 .rcases zCS i b with El|El
  .exact .inr (h.quit hi hr gi (.inl El))
  .have hw:=(h.wk i El az).2;cases bK:S.cZ i with
   |run=>exact .inr (h.Cj El az bK)
   |left=>exact .inr (h.quit hi hr gi (.inr ⟨El,bK⟩))
   |po=>
    rw[bK]at hw;obtain⟨_,_,_,_,_,_,_,k⟩:=hw;rw[hi]at k;rw[zAY k]at hr;cases hr
   |pd=>
    rw[bK]at hw;obtain⟨_,_,_,_,k,_⟩:=hw;rw[hi]at k;rw[zAY k]at hr;cases hr
theorem Inv.step (h:Inv G b S gs w t):kP G S w\/∃S' ff w' gT ops,stepT P (crowd gs w sl)=(.next (crowd ff w' gT),ops)/\Mu.lt P G.co G.cd (b+G.T) (S'.mu G b) (S.mu G b)/\Inv G b S' ff w' (t++ops):=by
 obtain⟨i,g,d,gT,hi,hg,bK⟩:=crowd_pick (P:=P) (w:=w) (sl:=sl) h.awake h.Vx;rcases(h.at d).zbd (sl:=gT) hi hg with⟨h1,h2,h3,h4⟩|⟨S',ff,w',MM,ops,h1,h2,h3⟩
 .exact .inl ⟨h1,h2,h3,G.II _ _ _ _ _ _ h4⟩
 .exact .inr ⟨S',ff,w',MM,ops,bK.trans h1,h2,h3⟩
theorem Inv.toEnd (h:Inv G b S gs w t):∃N S' ff w' gT t',runNT P N (crowd gs w sl) t=(.next (crowd ff w' gT),t')/\Inv G b S' ff w' t'/\kP G S' w':=by
 have key:∀μ:Mu,∀(S:St) (gs:Array Goroutine) (w:World) (t:Trace) (sl:Option (Nat×Nat)),S.mu G b=μ->Inv G b S gs w t->∃N S' ff w' gT t',runNT P N (crowd gs w sl) t=(.next (crowd ff w' gT),t')/\Inv G b S' ff w' t'/\kP G S' w':=by
  intro μ;induction((Mu.wf P G.co G.cd (b+G.T)).apply μ)with
  |intro μ _ ih=>
   intro S gs w t sl hμ h;rcases h.step (sl:=sl)with ho|⟨S',ff,w',gT,ops,h1,h2,h3⟩
   .exact⟨0,S,gs,w,sl,t,rfl,h,ho⟩
   .obtain⟨N,S2,Pk,w2,MM,t2,k1,k2,k3⟩:=ih _ (hμ▸h2) S' ff w' (t++ops) gT rfl h3;exact⟨N+1,S2,Pk,w2,MM,t2,by simp only[runNT,h1];exact k1,k2,k3⟩
 exact key _ S gs w t sl rfl h
theorem Inv.Vy (h:Inv G b S gs w t) (ho:kP G S w):gs[0]?=some S.mn.g/\S.mn.g.status=.running/\(∀i g,0<i->gs[i]?=some g->QuitsIn P (S.q i) g)/\Co (λg=>g=0) (λ_=>S.mn.kn) (λ_=>S.mn.own) w.heap.size t/\∀m,m<G.T->S.M m=G.E m:=by
 obtain⟨k1,k2,k3,k4⟩:=ho;obtain⟨m1,m2,m3,m4⟩:=h.main;rw[k3]at m4;have hb:=h.b1
 have all:∀j,j<G.T->S.cZ (b+j)=.left:=by
  intro j hj;refine zBF λhn=>?_;have e:=sumTo_upd (λa=>S.cZ (b+a)) oh.left (λs=>if s=oh.left then 1 else 0) hj;rw[h.cnt,k2]at e;simp only[zAH hn,zAI]at e;have le:=sumTo_le (f:=λa=>if upd (λa=>S.cZ (b+a)) j oh.left a=oh.left then 1 else 0) (c:=1) (j:=G.T) λi _=>by split<;>omega
  omega
 have lf:∀i,b<=i->i<b+S.k->S.cZ i=.left:=λi h1 h2=>by
  have:=all (i-b) (by omega);rwa [show b+(i-b)=i by omega]at this
 refine⟨m4.1,m4.2.1,λi g hi hg=>?_,?_,λm hm=>?_⟩
 .rcases zCS i b with El|El
  .exact h.old i g hi El hg
  .have az:i<b+S.k:=by rw[<-h.size];exact(zAD.1 hg).1
   have hw:=(h.wk i El az).2;rw[lf i El az]at hw;obtain⟨_,g',h1,h2⟩:=hw;rw[hg]at h1;exact zAY h1▸h2
 .have e:∀g,S.act b g↔g=0:=λg=>by
   constructor
   .rintro(e|⟨e1,e2,e3⟩)
    .exact e
    .exact absurd (lf g e1 e2) e3
   .exact .inl
  have hc:=h.co.pB (A':=λg=>g=0) λg=>(e g).symm;refine hc.shrink (λg hg r hr=>?_) (λg hg r hr=>?_) λg hg r hr=>?_
  .rw[hg,m1];exact hr
  .rw[hg,m2];exact hr
  .have:=hc.sub 0 rfl r (by rw[m2];exact hr);rwa [m1]at this
 .have hw:=(h.wk (b+m) (by omega) (by omega)).2;rw[all m hm]at hw;have:=h.marks m;rw[hw.1]at this;cases hE:G.E m with
  |true=>exact this.2 ⟨by omega,hE,rfl⟩
  |false=>
   cases hM:S.M m with
   |false=>rfl
   |true=>have:=(this.1 hM).2.1;rw[hE]at this;cases this
theorem Inv.begin (G:iI P) {kn own:Nat->Prop} {g:Goroutine} {q:Nat->Nat} (hg:gs[0]?=some g) (hr:g.status=.running) (hq:∀i x,0<i->gs[i]?=some x->QuitsIn P (q i) x)
 (lE:Co (λg=>g=0) (λ_=>kn) (λ_=>own) w.heap.size t) (ho:isChan w G.co) (hd:isChan w G.cd) (i6:¬kn G.co) (FJ:¬kn G.cd) (hs:jf P (G.Cg 0) kn own g w):
 Inv G gs.size {k:=0,n:=0,M:=λ_=>false,kn:=λ_=>kn,own:=λ_=>own,cZ:=λ_=>.run,x:=λ_=>⟨default,true,kn,own,g,w⟩,q:=q,mp:=false,mn:=⟨G.Cg 0,kn,own,g,w⟩} gs w t:=by
 have bW:0<gs.size:=(zAD.1 hg).1;refine⟨bW,rfl,zAR _,?_,ho,hd,λi _=>⟨i6,FJ⟩,λi x hi _ hx=>hq i x hi hx,λi h1 h2=>?_,?_,?_,λ_ _=>rfl,λm=>?_,λ_=>⟨rfl,λ_=>rfl⟩⟩
 .refine lE.pB λg=>?_;show(g=0\/(gs.size<=g/\g<gs.size+0/\_))↔g=0;constructor
  .rintro(e|⟨e1,e2,_⟩)
   .exact e
   .omega
  .exact .inl
 .exfalso;have h2:i<gs.size+0:=h2;omega
 .refine⟨rfl,rfl,Env.refl _ _,hg,hr,hs,?_⟩;show G.Cg 0=if 0<G.T then G.Cg 0 else _
  rw[zAI G.pos]
 .show sumTo G.T (λj=>if oh.run=oh.left then 1 else 0)=0;have:=sumTo_le (f:=λ_=>if oh.run=oh.left then 1 else 0) (c:=0) (j:=G.T) λi _=>by simp
  simpa using this
 .show false=true↔(m<0/\_)
  simp
end
end Go.aC
