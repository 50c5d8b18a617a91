/- A part. Conditions: none. -/
import Derived.Test.YtddlcmejelobdaaGreatDoorT05
import Derived.Conc.CrowdSel
import Derived.Conc.Script
set_option linter.all false
namespace Go.aD
open Go.Conc
variable {kn own:Nat->Prop} {w2:nq} {α:Type}
abbrev pM:=(Nat->Prop)->(Nat->Prop)->Goroutine->nq->Prop
inductive WT (P:un) (co cd:Nat) (vm:fu):Bool->pM
 |mk {s:Bool} {kn own:Nat->Prop} {g:Goroutine} {w:nq}
   (ok:∀w2,Env kn w w2->
     (∃g2 w3 es,stepG P false g w2=.go g2 w3 es/\g2.status=.running/\Fair kn own w2 w3 es)\/
     (∃z es,s=true/\stepG P false g w2=.comm g #[scase co vm z] true .send w2 es/\∀e∈es,Id kn own e)\/
     (∃v z es q,s=false/\stepG P false g w2=.comm g #[scase cd v z] true .send w2 es/\(∀e∈es,Id kn own e)/\QuitsIn P q (Conc.served g undef)))
   (go:∀w2 g2 w3 es,Env kn w w2->stepG P false g w2=.go g2 w3 es->WT P co cd vm s (aJ kn w2 w3) (aJ own w2 w3) g2 w3)
   (Vn:∀w2 z es,Env kn w w2->stepG P false g w2=.comm g #[scase co vm z] true .send w2 es->WT P co cd vm false kn own (Conc.served g undef) w2):WT P co cd vm s kn own g w
structure lu where
 vm:fu
 s:Bool
 kn:Nat->Prop
 own:Nat->Prop
 g:Goroutine
 w:nq
def lu.ok (P:un) (co cd:Nat) (x:lu):Prop:=WT P co cd x.vm x.s x.kn x.own x.g x.w
def lu.kid (P:un) (co:Nat) (y x:lu):Prop:=
 y.vm=x.vm/\∃w2,Env x.kn x.w w2/\
  ((∃es,stepG P false x.g w2=.go y.g y.w es/\y.kn=aJ x.kn w2 y.w/\y.own=aJ x.own w2 y.w/\y.s=x.s)\/
   (∃z es,stepG P false x.g w2=.comm x.g #[scase co x.vm z] true .send w2 es/\y.g=Conc.served x.g undef/\y.w=w2/\y.kn=x.kn/\y.own=x.own/\y.s=false))
def lu.lt (P:un) (co cd:Nat) (y x:lu):Prop:=x.ok P co cd/\y.kid P co x
def lu.wf (P:un) (co cd:Nat):WellFounded (lu.lt P co cd):=by
 refine⟨λx=>?_⟩;by_cases h:x.ok P co cd
 .obtain⟨vm,s,kn,own,g,w⟩:=x;change WT P co cd vm s kn own g w at h;induction h with
  |mk ok go Vn ih1 ih2=>
   refine⟨_,λy hy=>?_⟩;obtain⟨_,e,w2,he,⟨es,h1,h2,h3,h4⟩|⟨z,es,h1,h2,h3,h4,h5,h6⟩⟩:=hy
   .obtain⟨yv,ys,yk,yo,yg,yw⟩:=y;simp only at e h1 h2 h3 h4 he;subst e;subst h2;subst h3;subst h4;exact ih1 w2 yg yw es he h1
   .obtain⟨yv,ys,yk,yo,yg,yw⟩:=y;simp only at e h1 h2 h3 h4 h5 h6 he;subst e;subst h2;subst h3;subst h4;subst h5;subst h6;exact ih2 yw z es he h1
 .exact⟨_,λy hy=>absurd hy.1 h⟩
def WT.env {P:un} {co cd:Nat} {vm:fu} {s:Bool} {g:Goroutine} {w:nq} (h:WT P co cd vm s kn own g w) (he:Env kn w w2):WT P co cd vm s kn own g w2:=by
 cases h with
 |mk ok go Vn=>exact .mk (λw3 h3=>ok w3 (he.trans h3)) (λw3 g2 w4 es h3=>go w3 g2 w4 es (he.trans h3)) (λw3 z es h3=>Vn w3 z es (he.trans h3))
inductive kY (P:un) (At:pM):pM
 |mk {kn own:Nat->Prop} {g:Goroutine} {w:nq}
   (ok:∀w2,Env kn w w2->At kn own g w2\/∃g2 w3 es,stepG P true g w2=.go g2 w3 es/\g2.status=.running/\Fair kn own w2 w3 es)
   (go:∀w2 g2 w3 es,Env kn w w2->¬At kn own g w2->stepG P true g w2=.go g2 w3 es->kY P At (aJ kn w2 w3) (aJ own w2 w3) g2 w3):kY P At kn own g w
structure nC where
 At:pM
 kn:Nat->Prop
 own:Nat->Prop
 g:Goroutine
 w:nq
def nC.ok (P:un) (x:nC):Prop:=kY P x.At x.kn x.own x.g x.w
def nC.lt (P:un) (y x:nC):Prop:=
 x.ok P/\y.At=x.At/\∃w2 es,Env x.kn x.w w2/\¬x.At x.kn x.own x.g w2/\stepG P true x.g w2=.go y.g y.w es/\y.kn=aJ x.kn w2 y.w/\y.own=aJ x.own w2 y.w
def nC.wf (P:un):WellFounded (nC.lt P):=by
 refine⟨λx=>?_⟩;by_cases h:x.ok P
 .obtain⟨At,kn,own,g,w⟩:=x;change kY P At kn own g w at h;induction h with
  |mk ok go ih=>
   refine⟨_,λy hy=>?_⟩;obtain⟨_,e,w2,es,he,hn,h1,h2,h3⟩:=hy;obtain⟨yA,yk,yo,yg,yw⟩:=y;simp only at e h1 h2 h3 he hn;subst e;subst h2;subst h3;exact ih w2 yg yw es he hn h1
 .exact⟨_,λy hy=>absurd hy.1 h⟩
def kY.env {P:un} {At:pM} {g:Goroutine} {w:nq} (h:kY P At kn own g w) (he:Env kn w w2):kY P At kn own g w2:=by
 cases h with
 |mk ok go=>exact .mk (λw3 h3=>ok w3 (he.trans h3)) (λw3 g2 w4 es h3=>go w3 g2 w4 es (he.trans h3))
def kY.here {P:un} {At:pM} {g:Goroutine} {w:nq} (h:∀w2,Env kn w w2->At kn own g w2):kY P At kn own g w:=
 .mk (λw2 he=>.inl (h w2 he)) λw2 _ _ _ he hn=>absurd (h w2 he) hn
def RV (R:α->α->Prop) (n:Nat) (v' v:Nat->α):Prop:=∃i,i<n/\R (v' i) (v i)/\∀j,j≠i->v' j=v j
def RV.wf {R:α->α->Prop} (h:WellFounded R):∀n,WellFounded (RV R n):=by
 intro n;induction n with
 |zero=>exact⟨λv=>⟨_,λv' ⟨i,hi,_⟩=>absurd hi (zDK i)⟩⟩
 |succ n ih=>
  have key:∀x,∀v:Nat->α,v n=x->Acc (RV R (n+1)) v:=by
   intro x;induction(h.apply x)with
   |intro x _ Zp=>
    intro v;induction(ih.apply v)with
    |intro v _ ihv=>
     intro hv;refine⟨_,λv' qx=>?_⟩;obtain⟨i,hi,h1,h2⟩:=qx;by_cases e:i=n
     .subst e;exact Zp (v' i) (hv▸h1) v' rfl
     .exact ihv v' ⟨i,by omega,h1,h2⟩ ((h2 n (Ne.symm e)).trans hv)
  exact⟨λv=>key _ v rfl⟩
abbrev Mu:=Nat×((Nat->lu×Nat)×((nC×Nat)×Nat))
def Mu.lt (P:un) (co cd n:Nat):Mu->Mu->Prop:=
 Prod.Lex (·<·) (Prod.Lex (RV (Prod.Lex (lu.lt P co cd) (·<·)) n) (Prod.Lex (Prod.Lex (nC.lt P) (·<·)) (·<·)))
def vA {β:Type} {r:α->α->Prop} {s:β->β->Prop} (hr:WellFounded r) (hs:WellFounded s):WellFounded (Prod.Lex r s):=⟨λx=>Prod.lexAccessible (hr.apply x.1) (λb=>hs.apply b) x.2⟩
def zU:WellFounded (λa b:Nat=>a<b):=Nat.lt_wfRel.wf
def Mu.wf (P:un) (co cd n:Nat):WellFounded (Mu.lt P co cd n):=
 vA zU (vA (RV.wf (vA (lu.wf P co cd) zU) n) (vA (vA (nC.wf P) zU) zU))
def vB (P:un) (q:Question) (n:Nat) (hn:0<n) (hq:∀x,q.cut x<n) (f:Nat->Sem α) (w:nq):∃a d,a<n/\((choose q:Sem Nat)>>=f).run P w=(f a).run P (w.at d):=by
 by_cases hf:q.forced=true
 .exact⟨0,w.drawn,hn,by simp[choose,bind,Sem.bind,Sem.run,hf,World.at]⟩
 .exact⟨q.cut (w.tape w.drawn q),w.drawn+1,hq _,by simp[choose,bind,Sem.bind,Sem.run,hf,World.at]⟩
def MA (P:un) (ready:List (Nat×CommCase×List Way)) (bu:ready≠ []) (cn:∀x∈ready,x.2.2≠ []) (w:nq):
 ∃k c ws way d,(k,c,ws)∈ready/\way∈ws/\(do
  let a<-(choose (.select ready.length):Sem Nat)
  let(k,c,ws):=ready.getD a (0,default,[])
  let b<-choose (.extern "which waiting goroutine is the partner" ws.length)
  pure (k,c,ws.getD b .closed):Sem (Nat×CommCase×Way)).run P w=.ok (k,c,way) (w.at d):=by
 have hl:0<ready.length:=zCY.2 bu
 obtain⟨a,d,ha,e⟩:=vB P (.select ready.length) ready.length hl (λx=>by
  simp only[Question.cut]
  exact zGC _ hl) (λa=>do
   let(k,c,ws):=ready.getD a (0,default,[])
   let b<-choose (.extern "which waiting goroutine is the partner" ws.length)
   pure (k,c,ws.getD b .closed)) w
 obtain⟨⟨k,c,ws⟩,hx⟩:∃x,ready[a]?=some x:=⟨ready[a],zAI ha⟩
 have hg:ready.getD a (0,default,[])=(k,c,ws):=by rw[zCA,hx];rfl
 have eV:=zAT hx;have hws:0<ws.length:=zCY.2 (cn _ eV)
 obtain⟨b,d2,hb,e2⟩:=vB P (.extern "which waiting goroutine is the partner" ws.length) ws.length hws (fun x=>by
  simp only[Question.cut];split
  .omega
  .exact zGC _ hws) (λb=>(pure (k,c,ws.getD b .closed):Sem (Nat×CommCase×Way))) (w.at d)
 refine⟨k,c,ws,ws[b],d2,eV,List.getElem_mem hb,?_⟩;rw[e];simp only[hg];rw[e2];simp only[pure,Sem.run,zCA,zAI hb,zAD];rfl
section
variable {P:un} {gs:Array Goroutine} {w w₁:nq} {sl:Option (Nat × Nat)} {i:Nat} {g g₂:Goroutine} {es:Array Event} {cases:Array CommCase} {shape:CommShape} {blocking:Bool}
def yx {c:Nat} {z:fu} {s r:Nat} {tm:Bool} (hc:w₁.heap[c]?=some (.chan 0 #[] false s r tm)) (gs:Array Goroutine):
 ways w₁ gs (rcase c z)=(partners gs c true).map λ(h,k)=>.partner h k:=by
 simp only[ways,rcase,hc,Array.size_empty,zEV,zBC];cases partners gs c true with
 |nil=>rfl
 |cons p ps=>rfl
def oU (hi:gs[i]?=some g) (h:stepG P (i==0) g w=.comm g₂ cases blocking shape w₁ es)
 (rP:∀(m:Nat) (cc:CommCase),cases[m]?=some cc->∃c z s r tm,cc=rcase c z/\w₁.heap[c]?=some (.chan 0 #[] false s r tm)/\
   ∀j k,(j,k)∈partners (gs.setIfInBounds i ph) c true->k=0/\j≠i/\∃gj vj zj MB,gs[j]?=some (parked gj #[scase c vj zj] MB))
 (bu:∃(m:Nat) (c:Nat) (z:fu),cases[m]?=some (rcase c z)/\partners (gs.setIfInBounds i ph) c true≠ []):
 ∃(m c:Nat) (z:fu) (s r:Nat) (tm:Bool) (j:Nat) (gj:Goroutine) (vj zj:fu) (MB:CommShape) (d:Nat),cases[m]?=some (rcase c z)/\w₁.heap[c]?=some (.chan 0 #[] false s r tm)/\j≠i/\gs[j]?=some (parked gj #[scase c vj zj] MB)/\
  runT P (crowd gs w sl) i=(.next (crowd ((gs.setIfInBounds j (gj.finishComm P #[scase c vj zj] MB 0 undef false)).setIfInBounds i (g₂.finishComm P cases shape m vj true)) ((w₁.at d).setChan c 0 #[] false (s+1) (r+1) tm) sl),
   MemOp.ofEvents i g.frame.fn g.frame.place es++#[{g:=j,fn:=gj.frame.fn,pos:=gj.frame.place,act:=.send c s},{g:=i,fn:=g₂.frame.fn,pos:=g₂.frame.place,act:=.recv c r 0},
    {g:=j,fn:=gj.frame.fn,pos:=gj.frame.place,act:=.sendDone c s},{g:=i,fn:=g₂.frame.fn,pos:=g₂.frame.place,act:=.recvDone c r}]):=by
 let ready:=(cases.zipIdx.toList.map λ(c,k)=>(k,c,ways w₁ (gs.setIfInBounds i ph) c)).filter λ(_,_,ws)=>!ws.isEmpty
 have eV:∀k c ws,(k,c,ws)∈ready->cases[k]?=some c/\ws=ways w₁ (gs.setIfInBounds i ph) c/\ws≠ []:=by
  intro k c ws hx;simp only[ready,zCW,zBY,Prod.exists,zAH]at hx;obtain⟨⟨c',k',hz,rfl,rfl,rfl⟩,hx⟩:=hx;exact⟨mem_of_zipIdx hz,rfl,λe=>by rw[e]at hx;simp at hx⟩
 have MC:ready≠ []:=by
  obtain⟨m,c,z,hm,hp⟩:=bu;obtain⟨c',z',s,r,tm,e,hc,_⟩:=rP m _ hm;simp only[rcase,CommCase.mk.injEq,Value.chan.injEq,zAB,zCS]at e;obtain⟨rfl,rfl⟩:=e
  have:(m,rcase c z,ways w₁ (gs.setIfInBounds i ph) (rcase c z))∈ready:=by
   simp only[ready,zCW,zBY,Prod.exists,zAH];refine⟨⟨rcase c z,m,?_,rfl,rfl,rfl⟩,?_⟩
   .rw[Array.mem_toList_iff,Array.mem_zipIdx_iff_getElem?];exact hm
   .rw[yx hc];cases hpp:partners (gs.setIfInBounds i ph) c true with
    |nil=>exact absurd hpp hp
    |cons p ps=>rfl
  intro e;rw[e]at this;cases this
 have zeL:cases.any (illMade w₁)=false:=any_ill λcc xy=>by
  obtain⟨m,hm,rfl⟩:=zCJ.1 xy;obtain⟨c,z,s,r,tm,e,hc,_⟩:=rP m _ (zAK hm);rw[e];exact made_recv z hc
 obtain⟨k,cc,ws,way,d,h1,h2,h3⟩:=MA P ready MC (λx hx=>(eV x.1 x.2.1 x.2.2 hx).2.2) w₁;obtain⟨hk,rfl,_⟩:=eV _ _ _ h1;obtain⟨c,z,s,r,tm,rfl,hc,rQ⟩:=rP k cc hk;rw[yx hc]at h2;obtain⟨⟨j,k0⟩,hj,rfl⟩:=zBY.1 h2;obtain⟨rfl,sL,gj,vj,zj,MB,hgj⟩:=rQ j k0 hj;refine⟨k,c,z,s,r,tm,j,gj,vj,zj,MB,d,hk,hc,sL,hgj,?_⟩;have BH:=stand_get (i:=i) sL hgj;have hfp:=finishPartner_at P (gs.setIfInBounds i ph) BH (cs:=#[scase c vj zj]) (sh:=MB) rfl 0 undef;have Po:(gs.setIfInBounds i ph).getD j default=parked gj #[scase c vj zj] MB:=by rw[zBA,BH];rfl
 have hov:offeredValue (gs.setIfInBounds i ph) j 0=vj:=by simp[offeredValue,BH,parked,scase]
 have Fy:ready.isEmpty=false:=by
  cases hr:ready with
  |nil=>exact absurd hr MC
  |cons x xs=>rfl
 rw[runT_crowd_comm hi h];unfold communicate;rw[zAG]
 .dsimp only;split
  .rename_i he;exact absurd (show ready.isEmpty=true from he) (by rw[Fy];exact Bool.false_ne_true)
  .split
   .rename_i heq;have e:=heq.symm.trans h3;cases e
   .rename_i k' c' zlT w' heq;have e:=heq.symm.trans h3;simp only[Result.ok.injEq,zAH]at e;obtain⟨⟨rfl,rfl,rfl⟩,rfl⟩:=e;have hc':(w₁.at d).heap[c]?=some (.chan 0 #[] false s r tm):=hc;simp[rcase,hc',crowd,hfp,Po,hov,set_stand2,finishComm_parked,scase,parked,World.setChan];rfl
 .rw[zEQ];exact zeL
end
end Go.aD
namespace Go.aD
open Go.Conc
open Go.ConcN (upd upd_same upd_ne sumTo sumTo_upd sumTo_congr le_sumTo)
variable {A:Nat->Prop} {es:Array Event} {g2 x:Goroutine} {i j:Nat} {kn own:Nat->Nat->Prop} {w1 w3:nq} {α:Type}
structure jK (P:un)where
 T:Nat
 co:Nat
 cd:Nat
 E:Nat->Bool
 vm:Nat->fu
 Fz:Nat->pM
 BI:Nat->(Nat->Bool)->pM
 Out:(Nat->Bool)->pM
 ne:co≠cd
 pos:0<T
 spw:∀k kn own g w,k<T->Fz k kn own g w->∃g2 child es K k0 o0,stepG P true g w=.spawn g2 child w es/\(∀e∈es,Id kn own e)/\g2.status=.running/\child.status=.running/\
  (∀r,K r->kn r)/\(∀r,k0 r->kn r)/\(∀r,o0 r->own r)/\(∀r,o0 r->k0 r)/\(∀r,o0 r->¬K r)/\WT P co cd (vm k) (E k) K (λ_=>False) child w/\
  kY P (if k+1<T then Fz (k+1)else BI 0 λ_=>false) k0 o0 g2 w
 sel:∀n M kn own g w,n<T->BI n M kn own g w->∃es z z',stepG P true g w=.comm g #[rcase co z,rcase cd z'] true .select w es/\(∀e∈es,Id kn own e)/\
  (∀w2 m,Env kn w w2->m<T->E m=true->kY P (BI n λa=>if a=m then true else M a) kn own (g.finishComm P #[rcase co z,rcase cd z'] .select (0:Nat) (vm m) true) w2)/\
  (∀w2 v,Env kn w w2->(n+1=T->∀m,m<T->M m=E m)->kY P (if n+1<T then BI (n+1) M else Out M) kn own (g.finishComm P #[rcase co z,rcase cd z'] .select (1:Nat) v true) w2)
 MD:∀M kn own g w d,Out M kn own g (World.at w d)->Out M kn own g w
inductive qQ
 |run|po|pd|left
 deriving DecidableEq
structure St where
 k:Nat
 n:Nat
 M:Nat->Bool
 kn:Nat->Nat->Prop
 own:Nat->Nat->Prop
 dG:Nat->qQ
 x:Nat->lu
 q:Nat->Nat
 mp:Bool
 mn:nC
section
variable {P:un} (G:jK P) (b:Nat)
def St.act (S:St) (i:Nat):Prop:=i=0\/(b<=i/\i<b+S.k/\S.dG i≠ .left)
def St.At (S:St):pM:=if S.k<G.T then G.Fz S.k else if S.n<G.T then G.BI S.n S.M else G.Out S.M
def St.Wk (S:St) (gs:Array Goroutine) (w:nq) (i:Nat):Prop:=
 (S.dG i≠ .left->(S.x i).ok P G.co G.cd/\(S.x i).vm=G.vm (i-b)/\((S.x i).s=true->G.E (i-b)=true)/\S.kn i=(S.x i).kn/\S.own i=(S.x i).own/\Env (S.x i).kn (S.x i).w w/\S.q i=0)/\
 match S.dG i with
 |.run=>gs[i]?=some (S.x i).g/\(S.x i).g.status=.running
 |.po=>(S.x i).s=true/\∃w1 z es,Env (S.x i).kn (S.x i).w w1/\Env (S.x i).kn w1 w/\stepG P false (S.x i).g w1=.comm (S.x i).g #[scase G.co (S.x i).vm z] true .send w1 es/\
    gs[i]?=some (parked (S.x i).g #[scase G.co (S.x i).vm z] .send)
 |.pd=>(S.x i).s=false/\∃v z q,gs[i]?=some (parked (S.x i).g #[scase G.cd v z] .send)/\QuitsIn P q (Conc.served (S.x i).g undef)
 |.left=>(S.x i).s=false/\∃g,gs[i]?=some g/\QuitsIn P (S.q i) g
def St.Mn (S:St) (gs:Array Goroutine) (w:nq):Prop:=
 S.kn 0=S.mn.kn/\S.own 0=S.mn.own/\Env S.mn.kn S.mn.w w/\
 match S.mp with
 |true=>S.k=G.T/\S.n<G.T/\(∃w1 z z' es,G.BI S.n S.M S.mn.kn S.mn.own S.mn.g w1/\Env S.mn.kn w1 w/\stepG P true S.mn.g w1=.comm S.mn.g #[rcase G.co z,rcase G.cd z'] true .select w1 es/\
   gs[0]?=some (parked S.mn.g #[rcase G.co z,rcase G.cd z'] .select))/\∀i,b<=i->i<b+S.k->S.dG i≠ .po/\S.dG i≠ .pd
 |false=>gs[0]?=some S.mn.g/\S.mn.g.status=.running/\S.mn.ok P/\S.mn.At=S.At G
def isChan (w:nq) (c:Nat):Prop:=∃s tm,w.heap[c]?=some (.chan 0 #[] false s s tm)
structure Inv (S:St) (gs:Array Goroutine) (w:nq) (t:Trace):Prop where
 b1:0<b
 size:gs.size=b+S.k
 kT:S.k<=G.T
 co:Co (S.act b) S.kn S.own w.heap.size t
 Cs:isChan w G.co
 Ct:isChan w G.cd
 JN:∀i,S.act b i->¬S.kn i G.co/\¬S.kn i G.cd
 old:∀i g,0<i->i<b->gs[i]?=some g->QuitsIn P (S.q i) g
 wk:∀i,b<=i->i<b+S.k->S.Wk G b gs w i
 main:S.Mn G b gs w
 cnt:sumTo G.T (λj=>if S.dG (b+j)=.left then 1 else 0)=S.n
 ME:∀i,b+S.k<=i->S.dG i=.run
 marks:∀m,S.M m=true↔(m<S.k/\G.E m=true/\(S.x (b+m)).s=false)
 early:S.k<G.T->S.n=0/\∀m,S.M m=false
def St.mu (S:St):Mu:=
 (2*(G.T-S.k)+(S.k-S.n),(λi=>(S.x i,if S.dG i=.run then 1 else 0)),((S.mn,if S.mp then 0 else 1),sumTo (b+G.T) S.q))
end
def isChan.lt {w:nq} {c:Nat} (h:isChan w c):c<w.heap.size:=by obtain⟨s,tm,h⟩:=h;exact(zAC.1 h).1
def jL (kn:Nat->Prop) (w:nq) (d:Nat):Env kn w (w.at d):=⟨zAA _,λ_ _=>rfl,rfl,rfl⟩
section
variable {P:un} {G:jK P} {b:Nat} {S:St} {gs:Array Goroutine} {w:nq} {t:Trace}
def Inv.at (h:Inv G b S gs w t) (d:Nat):Inv G b S gs (w.at d) t where
 b1:=h.b1
 size:=h.size
 kT:=h.kT
 co:=h.co
 Cs:=h.Cs
 Ct:=h.Ct
 JN:=h.JN
 old:=h.old
 cnt:=h.cnt
 ME:=h.ME
 marks:=h.marks
 early:=h.early
 wk:=λi h1 h2=>by
   have hw:=h.wk i h1 h2;refine⟨λhn=>?_,?_⟩
   .obtain⟨a1,a2,a3,a4,a5,a6,a7⟩:=hw.1 hn;exact⟨a1,a2,a3,a4,a5,a6.trans (jL _ _ _),a7⟩
   .have h2:=hw.2;cases hs:S.dG i with
    |run=>rw[hs]at h2;exact h2
    |po=>
     rw[hs]at h2;obtain⟨c1,w1,z,es,c2,c3,c4,c5⟩:=h2;exact⟨c1,w1,z,es,c2,c3.trans (jL _ _ _),c4,c5⟩
    |pd=>rw[hs]at h2;exact h2
    |left=>rw[hs]at h2;exact h2
 main:=by
  obtain⟨a1,a2,a3,a4⟩:=h.main;refine⟨a1,a2,a3.trans (jL _ _ _),?_⟩;cases hm:S.mp with
  |true=>
   rw[hm]at a4;obtain⟨b1,b2,⟨w1,z,z',es,c1,c2,c3,c4⟩,b3⟩:=a4;exact⟨b1,b2,⟨w1,z,z',es,c1,c2.trans (jL _ _ _),c3,c4⟩,b3⟩
  |false=>rw[hm]at a4;exact a4
def Inv.zV (h:Inv G b S gs w t) (hi:S.act b i) (hf:Fair (S.kn i) (S.own i) w w1 es) (hj:S.act b j) (bu:j≠i):Env (S.kn j) w w1:=
 ⟨hf.size,λr hr=>hf.others r (h.co.bound j hj r hr) λho=>h.co.dj i j hi hj (Ne.symm bu) r ho hr,hf.os,hf.out⟩
def Inv.Cu (h:Inv G b S gs w t) (hi:S.act b i) (hf:Fair (S.kn i) (S.own i) w w1 es):isChan w1 G.co/\isChan w1 G.cd:=by
 obtain⟨n1,n2⟩:=h.JN i hi;obtain⟨s,tm,h1⟩:=h.Cs;obtain⟨s',bV,h2⟩:=h.Ct;exact⟨⟨s,tm,(hf.others _ h.Cs.lt λx=>n1 (h.co.sub i hi _ x)).trans h1⟩,⟨s',bV,(hf.others _ h.Ct.lt λx=>n2 (h.co.sub i hi _ x)).trans h2⟩⟩
def St.Wk.other {S S':St} {gs fT:Array Goroutine} {w w':nq} (h:S.Wk G b gs w j) (e1:S'.dG j=S.dG j) (e2:S'.x j=S.x j) (e3:S'.q j=S.q j) (e4:S'.kn j=S.kn j) (e5:S'.own j=S.own j)
 (e6:fT[j]?=gs[j]?) (he:S.dG j≠ .left->Env (S.kn j) w w'):S'.Wk G b fT w' j:=by
 refine⟨λhn=>?_,?_⟩
 .rw[e1]at hn;obtain⟨a1,a2,a3,a4,a5,a6,a7⟩:=h.1 hn;rw[e2,e3,e4,e5];exact⟨a1,a2,a3,a4,a5,a6.trans (a4▸he hn),a7⟩
 .have h2:=h.2;rw[e1,e2,e3,e6];cases hs:S.dG j with
  |run=>rw[hs]at h2;exact h2
  |po=>
   rw[hs]at h2;obtain⟨c1,w1,z,es,c2,c3,c4,c5⟩:=h2;have hn:S.dG j≠ .left:=by rw[hs];simp
   exact⟨c1,w1,z,es,c2,c3.trans ((h.1 hn).2.2.2.1▸he hn),c4,c5⟩
  |pd=>rw[hs]at h2;exact h2
  |left=>rw[hs]at h2;exact h2
def Inv.kinds (h:Inv G b S gs w t) (hj:gs[j]?=some x):
 ((x.status=.running\/x.status=.finished)/\¬(j=0/\S.mp=true))\/(j=0/\S.mp=true/\∃z z',x=parked S.mn.g #[rcase G.co z,rcase G.cd z'] .select)\/
 (b<=j/\j<b+S.k/\S.dG j=.po/\∃z,x=parked (S.x j).g #[scase G.co (S.x j).vm z] .send)\/(b<=j/\j<b+S.k/\S.dG j=.pd/\∃v z,x=parked (S.x j).g #[scase G.cd v z] .send):=by
 have au:j<b+S.k:=by rw[<-h.size];exact(zAC.1 hj).1
 have hb:=h.b1;rcases zCB j with rfl|gC
 .obtain⟨_,_,_,a4⟩:=h.main;cases hm:S.mp with
  |true=>
   rw[hm]at a4;obtain⟨_,_,⟨w1,z,z',es,_,_,_,c4⟩,_⟩:=a4;rw[hj]at c4;exact .inr (.inl ⟨rfl,rfl,z,z',zAW c4⟩)
  |false=>
   rw[hm]at a4;rw[hj]at a4;exact .inl ⟨.inl (zAW a4.1▸a4.2.1),by simp⟩
 .rcases zDA j b with zF|zF
  .exact .inl ⟨(h.old j x gC zF hj).status,λe=>by omega⟩
  .have hw:=(h.wk j zF au).2;cases hs:S.dG j with
   |run=>rw[hs]at hw;rw[hj]at hw;exact .inl ⟨.inl (zAW hw.1▸hw.2),λe=>by omega⟩
   |po=>
    rw[hs]at hw;obtain⟨_,w1,z,es,_,_,_,c5⟩:=hw;rw[hj]at c5;exact .inr (.inr (.inl ⟨zF,au,rfl,z,zAW c5⟩))
   |pd=>
    rw[hs]at hw;obtain⟨_,v,z,q,c5,_⟩:=hw;rw[hj]at c5;exact .inr (.inr (.inr ⟨zF,au,rfl,v,z,zAW c5⟩))
   |left=>
    rw[hs]at hw;obtain⟨_,g,c1,c2⟩:=hw;rw[hj]at c1;exact .inl ⟨zAW c1▸c2.status,λe=>by omega⟩
def Inv.awake (h:Inv G b S gs w t):∀g∈gs,Conc.awake g:=by
 intro g hg;obtain⟨j,hj,rfl⟩:=zCJ.1 hg;rcases h.kinds (zAK hj)with⟨h1,_⟩|⟨_,_,z,z',e⟩|⟨_,_,_,z,e⟩|⟨_,_,_,v,z,e⟩
 .exact awake_of (h1.imp id .inr)
 .rw[e];exact awake_of (.inr (.inl rfl))
 .rw[e];exact awake_of (.inr (.inl rfl))
 .rw[e];exact awake_of (.inr (.inl rfl))
def Cv {f:α->α} {a:Array α} (h:∀(j:Nat) (x:α),a[j]?=some x->f x=x):a.map f=a:=by
 apply zFO;intro j;rw[zCP];cases hj:a[j]? with
 |none=>rfl
 |some x=>rw[zBJ,h j x hj]
def Inv.woken (h:Inv G b S gs w t) {w':nq} (ho:isChan w' G.co) (hd:isChan w' G.cd) (g g':Goroutine):gs.map (Conc.woken P g g' w')=gs:=by
 obtain⟨s,tm,ho⟩:=ho;obtain⟨s',bV,hd⟩:=hd;refine Cv λj x hj=>?_;unfold Conc.woken;split
 .rcases h.kinds hj with⟨h1,_⟩|⟨_,_,z,z',e⟩|⟨_,_,_,z,e⟩|⟨_,_,_,v,z,e⟩
  .exact again_running _ h1
  .rw[e];refine again_all_open λcc xy=>?_;have:cc=rcase G.co z\/cc=rcase G.cd z':=by simpa using xy
   rcases this with rfl|rfl
   .exact⟨_,_,_,_,_,_,_,rfl,ho⟩
   .exact⟨_,_,_,_,_,_,_,rfl,hd⟩
  .rw[e];exact again_send_open ho
  .rw[e];exact again_send_open hd
 .rfl
def Inv.sW (h:Inv G b S gs w t) (hj:gs[j]?=some x) (h0:¬(j=0/\S.mp=true)) (c:Nat):offersAt x c false=[]:=by
 rcases h.kinds hj with⟨h1,_⟩|⟨e1,e2,_⟩|⟨_,_,_,z,e⟩|⟨_,_,_,v,z,e⟩
 .exact offersAt_of_not_blocked (λe=>by rcases h1 with h1|h1<;>rw[h1]at e<;>cases e) _ _
 .exact absurd ⟨e1,e2⟩ h0
 .rw[e];exact offersAt_parked_send' ..
 .rw[e];exact offersAt_parked_send' ..
end
def aQ (kn:Nat->Prop) (w:nq):aJ kn w w=kn:=by
 funext r;apply propext;unfold aJ new;constructor
 .rintro(h|⟨h1,h2⟩)
  .exact h
  .omega
 .exact .inl
def cw (f:Nat->α) (i:Nat):upd f i (f i)=f:=by
 funext a;by_cases e:a=i
 .subst e;rw[upd_same]
 .rw[upd_ne _ _ e]
def Fair.refl {kn own:Nat->Prop} {w:nq} (h:∀e∈es,Id kn own e):Fair kn own w w es:=
 ⟨zAA _,λ_ _ _=>rfl,rfl,rfl,rfl,zAA _,by rw[aQ,aQ];exact h⟩
def Co.ZL {w:nq} {t:Trace} (h:Co A kn own w.heap.size t) (hi:A i) (he:∀e∈es,Id (kn i) (own i) e) (fn:FuncId) (pos:String):
 Co A kn own w.heap.size (t++MemOp.ofEvents i fn pos es):=by
 have:=h.step hi rfl (Fair.refl he) fn pos;rwa [aQ,aQ,cw,cw]at this
def Co.si {A':Nat->Prop} {B:Nat} {t:Trace} (h:Co A kn own B t) (e:∀g,A' g↔A g):Co A' kn own B t:=by
 have:A'=A:=funext λg=>propext (e g);rw[this];exact h
section
variable {P:un} {G:jK P} {b:Nat} {S S':St} {gs fT:Array Goroutine} {w w':nq} {t:Trace} {sl:Option (Nat × Nat)}
def qR (G:jK P) (b:Nat) (S:St) (gs:Array Goroutine) (w:nq) (sl:Option (Nat×Nat)) (t:Trace) (i:Nat):Prop:=
 ∃S' fT w' iW ops,runT P (crowd gs w sl) i=(.next (crowd fT w' iW),ops)/\Mu.lt P G.co G.cd (b+G.T) (S'.mu G b) (S.mu G b)/\Inv G b S' fT w' (t++ops)
def St.Mn.other (h:S.Mn G b gs w) (e1:S'.mn=S.mn) (e2:S'.mp=S.mp) (e3:S'.kn 0=S.kn 0) (e4:S'.own 0=S.own 0) (e5:S'.k=S.k) (e6:S'.n=S.n) (e7:S'.M=S.M) (hg:fT[0]?=gs[0]?) (he:Env (S.kn 0) w w')
 (cD:S.mp=true->∀i,b<=i->i<b+S.k->S'.dG i≠ .po/\S'.dG i≠ .pd):S'.Mn G b fT w':=by
 obtain⟨a1,a2,a3,a4⟩:=h;rw[a1]at he;refine⟨by rw[e3,e1];exact a1,by rw[e4,e1];exact a2,by rw[e1];exact a3.trans he,?_⟩;have xf:S'.At G=S.At G:=by unfold St.At;rw[e5,e6,e7]
 rw[e2];cases hm:S.mp with
 |true=>
  rw[hm]at a4;obtain⟨b1,b2,⟨w1,z,z',es,c1,c2,c3,c4⟩,b3⟩:=a4;refine⟨by rw[e5];exact b1,by rw[e6];exact b2,⟨w1,z,z',es,by rw[e6,e7,e1];exact c1,by rw[e1];exact c2.trans he,by rw[e1];exact c3,by rw[e1,hg];exact c4⟩,?_⟩;rw[e5];exact cD hm
 |false=>
  rw[hm]at a4;refine⟨by rw[hg,e1];exact a4.1,by rw[e1];exact a4.2.1,by rw[e1];exact a4.2.2.1,by rw[e1,xf];exact a4.2.2.2⟩
def aK {a:Array α} (x:α) (h:j≠i):(a.setIfInBounds i x)[j]?=a[j]?:=zCV (Ne.symm h)
def aV {a:Array α} (x:α) (h:i<a.size):(a.setIfInBounds i x)[i]?=some x:=by simp[h]
def me {q q':Nat->Nat} {n:Nat} (hi:i<n) (h:q' i<q i) (ho:∀j,j≠i->q' j=q j):sumTo n q'<sumTo n q:=by
 have e:q'=upd q i (q' i):=by
  funext a;by_cases ea:a=i
  .subst ea;rw[upd_same]
  .rw[upd_ne _ _ ea,ho a ea]
 have:=sumTo_upd q (q' i) (λx=>x) hi;rw[<-e]at this;have this:sumTo n q'+q i=sumTo n q+q' i:=this;omega
def Inv.quit (h:Inv G b S gs w t) {g:Goroutine} (hi:gs[i]?=some g) (hr:g.status=.running) (gC:0<i) (hk:i<b\/(b<=i/\S.dG i=.left)):qR G b S gs w sl t i:=by
 have au:i<b+S.k:=by rw[<-h.size];exact(zAC.1 hi).1
 have hq:QuitsIn P (S.q i) g:=by
  rcases hk with hk|⟨hk,hs⟩
  .exact h.old i g gC hk hi
  .have:=(h.wk i hk au).2;rw[hs]at this;obtain⟨_,g1,h1,h2⟩:=this;rw[hi]at h1;exact zAW h1▸h2
 have Tn:¬S.act b i:=by
  rintro(e|⟨e1,e2,e3⟩)
  .omega
  .rcases hk with hk|⟨_,hs⟩
   .omega
   .exact e3 hs
 cases BJ:S.q i with
 |zero=>rw[BJ]at hq;rw[show g.status=.finished from hq]at hr;cases hr
 |succ n=>
  rw[BJ]at hq;rcases hq with hf|⟨_,g',cD,sN⟩
  .rw[hf]at hr;cases hr
  have xg:(i==0)=false:=by simp;omega
  have bh:=runT_crowd_go (P:=P) (w:=w) (sl:=sl) hi (by rw[xg];exact cD w);rw[h.woken h.Cs h.Ct]at bh;have e0:t++MemOp.ofEvents i g.frame.fn g.frame.place #[]=t:=by simp[MemOp.ofEvents]
  refine⟨{S with q:=upd S.q i n},_,w,sl,_,bh,?_,?_⟩
  .refine .right _ (.right _ (.right _ ?_));refine me (i:=i) (show i<b+G.T by have:=h.kT;omega) ?_ λj hj=>upd_ne _ _ hj;show upd S.q i n i<S.q i;rw[upd_same,BJ];omega
  .rw[e0];refine⟨h.b1,by simpa using h.size,h.kT,h.co,h.Cs,h.Ct,h.JN,λj x hj zF hx=>?_,λj hj tZ=>?_,?_,h.cnt,h.ME,h.marks,h.early⟩
   .by_cases e:j=i
    .subst e;rw[aV _ (zAC.1 hi).1]at hx;show QuitsIn P (upd S.q j n j) x;rw[upd_same,<-zAW hx];exact sN
    .rw[aK _ e]at hx;show QuitsIn P (upd S.q i n j) x;rw[upd_ne _ _ e];exact h.old j x hj zF hx
   .by_cases e:j=i
    .subst e
     have hs:S.dG j=.left:=by
      rcases hk with hk|⟨_,hs⟩
      .omega
      .exact hs
     have:=(h.wk j hj tZ).2;rw[hs]at this;refine⟨λhn=>absurd hs hn,?_⟩;show(match S.dG j with|.run=>_|.po=>_|.pd=>_|.left=>_);rw[hs];refine⟨this.1,g',aV _ (zAC.1 hi).1,?_⟩;show QuitsIn P (upd S.q j n j) g';rw[upd_same];exact sN
    .exact(h.wk j hj tZ).other rfl rfl (upd_ne _ _ e) rfl rfl (aK _ e) λ_=>Env.refl _ _
   .exact h.main.other rfl rfl rfl rfl rfl rfl rfl (aK _ (by omega)) (Env.refl _ _) λhm=>by
     have:=h.main.2.2.2;rw[hm]at this;exact this.2.2.2
def Inv.Vo (h:Inv G b S gs w t) (hm:S.mp=false) (xf:¬S.mn.At S.mn.kn S.mn.own S.mn.g w) (cD:stepG P true S.mn.g w=.go g2 w3 es) (hr:g2.status=.running)
 (hf:Fair S.mn.kn S.mn.own w w3 es):qR G b S gs w sl t 0:=by
 obtain⟨a1,a2,a3,a4⟩:=h.main;rw[hm]at a4;obtain⟨c1,c2,c3,c4⟩:=a4;have h0:S.act b 0:=.inl rfl;have hb:=h.b1;have Ig:Fair (S.kn 0) (S.own 0) w w3 es:=by rw[a1,a2];exact hf
 obtain⟨o1,o2⟩:=h.Cu h0 Ig;have bh:=runT_crowd_go (P:=P) (w:=w) (sl:=sl) c1 (show stepG P (0==0) S.mn.g w=_ from cD);rw[h.woken o1 o2]at bh;have cB:0<gs.size:=(zAC.1 c1).1;refine⟨{S with kn:=upd S.kn 0 (aJ (S.kn 0) w w3),own:=upd S.own 0 (aJ (S.own 0) w w3),mn:=⟨S.mn.At,aJ S.mn.kn w w3,aJ S.mn.own w w3,g2,w3⟩},_,w3,sl,_,bh,?_,?_⟩
 .refine .right _ (.right _ (.left _ _ ?_));show Prod.Lex _ _ ((⟨S.mn.At,aJ S.mn.kn w w3,aJ S.mn.own w w3,g2,w3⟩:nC),if S.mp=true then 0 else 1) (S.mn,if S.mp=true then 0 else 1);exact .left _ _ ⟨c3,rfl,w,es,a3,xf,cD,rfl,rfl⟩
 .refine⟨hb,by simpa using h.size,h.kT,h.co.step h0 rfl Ig _ _,o1,o2,λj hj=>?_,λj x hj zF hx=>?_,λj hj tZ=>?_,?_,h.cnt,h.ME,h.marks,h.early⟩
  .obtain⟨n1,n2⟩:=h.JN j hj;have l1:=h.Cs.lt;have l2:=h.Ct.lt;by_cases e:j=0
   .subst e;show¬upd S.kn 0 (aJ (S.kn 0) w w3) 0 _/\¬upd S.kn 0 (aJ (S.kn 0) w w3) 0 _;rw[upd_same];exact⟨λx=>x.elim n1 λx=>by have:=x.1;omega,λx=>x.elim n2 λx=>by have:=x.1;omega⟩
   .show¬upd S.kn 0 _ j _/\¬upd S.kn 0 _ j _;rw[upd_ne _ _ e];exact⟨n1,n2⟩
  .rw[aK _ (by omega)]at hx;exact h.old j x hj zF hx
  .have e:j≠0:=by omega
   exact(h.wk j hj tZ).other rfl rfl rfl (upd_ne _ _ e) (upd_ne _ _ e) (aK _ e) λhn=>h.zV h0 Ig (.inr ⟨hj,tZ,hn⟩) e
  .refine⟨?_,?_,Env.refl _ _,?_⟩
   .show upd S.kn 0 (aJ (S.kn 0) w w3) 0=aJ S.mn.kn w w3;rw[upd_same,a1]
   .show upd S.own 0 (aJ (S.own 0) w w3) 0=aJ S.mn.own w w3;rw[upd_same,a2]
   .show(match S.mp with|true=>_|false=>_);rw[hm];refine⟨aV _ cB,hr,?_,c4⟩;have uy:=c3;cases uy with
    |mk ok go=>exact go w g2 w3 es a3 xf cD
def Inv.MG (h:Inv G b S gs w t) (hb:b<=i) (hk:i<b+S.k) (hs:S.dG i=.run) (cD:stepG P false (S.x i).g w=.go g2 w3 es) (hr:g2.status=.running)
 (hf:Fair (S.x i).kn (S.x i).own w w3 es):qR G b S gs w sl t i:=by
 have JO:=h.wk i hb hk;have hn:S.dG i≠ .left:=by rw[hs];simp
 obtain⟨a1,a2,a3,a4,a5,a6,a7⟩:=JO.1 hn;have c:=JO.2;rw[hs]at c;obtain⟨c1,c2⟩:=c;have hi:S.act b i:=.inr ⟨hb,hk,hn⟩;have bJ:=h.b1;have Ig:Fair (S.kn i) (S.own i) w w3 es:=by rw[a4,a5];exact hf
 obtain⟨o1,o2⟩:=h.Cu hi Ig;have xg:(i==0)=false:=by simp;omega
 have bh:=runT_crowd_go (P:=P) (w:=w) (sl:=sl) c1 (by rw[xg];exact cD);rw[h.woken o1 o2]at bh;have cB:i<gs.size:=(zAC.1 c1).1;refine⟨{S with kn:=upd S.kn i (aJ (S.kn i) w w3),own:=upd S.own i (aJ (S.own i) w w3),x:=upd S.x i ⟨(S.x i).vm,(S.x i).s,aJ (S.x i).kn w w3,aJ (S.x i).own w w3,g2,w3⟩},_,w3,sl,_,bh,?_,?_⟩
 .refine .right _ (.left _ _ ⟨i,by have:=h.kT;omega,?_,λj hj=>?_⟩)
  .show Prod.Lex _ _ (upd S.x i _ i,if S.dG i=qQ.run then 1 else 0) (S.x i,if S.dG i=qQ.run then 1 else 0);rw[upd_same];exact .left _ _ ⟨a1,rfl,w,a6,.inl ⟨es,cD,rfl,rfl,rfl⟩⟩
  .show(upd S.x i _ j,_)=(S.x j,_)
   rw[upd_ne _ _ hj]
 .refine⟨bJ,by simpa using h.size,h.kT,h.co.step hi rfl Ig _ _,o1,o2,λj hj=>?_,λj x hj zF hx=>?_,λj hj tZ=>?_,?_,h.cnt,h.ME,λm=>?_,h.early⟩
  .obtain⟨n1,n2⟩:=h.JN j hj;have l1:=h.Cs.lt;have l2:=h.Ct.lt;by_cases e:j=i
   .subst e;show¬upd S.kn j (aJ (S.kn j) w w3) j _/\¬upd S.kn j (aJ (S.kn j) w w3) j _;rw[upd_same];exact⟨λx=>x.elim n1 λx=>by have:=x.1;omega,λx=>x.elim n2 λx=>by have:=x.1;omega⟩
   .show¬upd S.kn i _ j _/\¬upd S.kn i _ j _;rw[upd_ne _ _ e];exact⟨n1,n2⟩
  .rw[aK _ (by omega)]at hx;exact h.old j x hj zF hx
  .by_cases e:j=i
   .subst e;refine⟨λ_=>?_,?_⟩
    .show lu.ok P G.co G.cd (upd S.x j _ j)/\_;simp only[upd_same];have uy:=a1;refine⟨?_,a2,a3,by rw[a4],by rw[a5],Env.refl _ _,a7⟩;cases uy with
     |mk ok go Vn=>exact go w g2 w3 es a6 cD
    .show(match S.dG j with|.run=>_|.po=>_|.pd=>_|.left=>_);rw[hs];simp only[upd_same];exact⟨aV _ cB,hr⟩
   .exact(h.wk j hj tZ).other rfl (upd_ne _ _ e) rfl (upd_ne _ _ e) (upd_ne _ _ e) (aK _ e) λhn=>h.zV hi Ig (.inr ⟨hj,tZ,hn⟩) e
  .have e:(0:Nat)≠i:=by omega
   exact h.main.other rfl rfl (upd_ne _ _ e) (upd_ne _ _ e) rfl rfl rfl (aK _ e) (h.zV hi Ig (.inl rfl) e) λhm=>by
    have:=h.main.2.2.2;rw[hm]at this;exact this.2.2.2
  .rw[h.marks m];show _↔_/\_/\(upd S.x i _ (b+m)).s=false;by_cases e:b+m=i
   .rw[<-e,upd_same]
   .rw[upd_ne _ _ e]
end
end Go.aD
namespace Go.aD
open Go.Conc
open Go.ConcN (upd upd_same upd_ne sumTo sumTo_upd sumTo_congr le_sumTo sumTo_le)
variable {A:Nat->Prop} {B c i j q r s:Nat} {ZT es:Array Event} {g:Goroutine} {kn own:Nat->Nat->Prop} {tm:Bool} {v z z1 z2:fu} {wm:nq} {x1 x2 x3 x4:MemOp}
section
variable {P:un} {G:jK P} {b:Nat} {S S':St} {gs fT:Array Goroutine} {w w':nq} {t t':Trace} {sl:Option (Nat × Nat)}
def ZM (t u:Trace) (x y:MemOp):t++((u.push x).push y)=(t++u)++#[x,y]:=by
 apply Array.ext';simp
def Inv.JP (h:Inv G b S gs w t) (hm:S.mp=false) (hk:S.k<G.T) (xf:G.Fz S.k S.mn.kn S.mn.own S.mn.g w):qR G b S gs w sl t 0:=by
 obtain⟨a1,a2,a3,a4⟩:=h.main;rw[hm]at a4;obtain⟨c1,c2,c3,c4⟩:=a4;have h0:S.act b 0:=.inl rfl;have hb:=h.b1;obtain⟨P8,hM0⟩:=h.early hk;obtain⟨g2,child,es,K,k0,o0,s1,s2,s3,s4,s5,s6,s7,s8,s9,Qo,s11⟩:=G.spw _ _ _ _ _ hk xf;have bh:=runT_crowd_spawn (P:=P) (w:=w) (sl:=sl) c1 (show stepG P (0==0) S.mn.g w=_ from s1);have cB:0<gs.size:=(zAC.1 c1).1;have hc:=h.size;have rP:S.dG gs.size=.run:=h.ME _ (by omega);have Vp:=h.co.ZL h0 (es:=es) (by rw[a1,a2];exact s2) S.mn.g.frame.fn S.mn.g.frame.place
 have Tn:¬S.act b gs.size:=by
  rintro(e|⟨_,e,_⟩)
  .omega
  .omega
 have Vq:=Vp.spawn h0 (c:=gs.size) (by omega) Tn (K:=K) (k0:=k0) (o0:=o0) (by rw[a1];exact s5) (by rw[a1];exact s6) (by rw[a2];exact s7) s8 s9
  (x:={g:=0,fn:=S.mn.g.frame.fn,pos:=S.mn.g.frame.place,act:=.go gs.size}) (y:={g:=gs.size,fn:=child.frame.fn,pos:=S.mn.g.frame.place,act:=.start}) ⟨rfl,rfl⟩ ⟨rfl,rfl⟩
 obtain⟨nc1,nc2⟩:=h.JN 0 h0;rw[a1]at nc1 nc2
 have ZN:∀j,j≠0->j<gs.size->((gs.setIfInBounds 0 g2).push child)[j]?=gs[j]?:=λj hj au=>by
  rw[zBK];simp only[zDV];rw[zAG (by omega),aK _ hj]
 refine⟨{S with k:=S.k+1,kn:=upd (upd S.kn 0 k0) gs.size K,own:=upd (upd S.own 0 o0) gs.size λ_=>False,x:=upd S.x gs.size ⟨G.vm S.k,G.E S.k,K,λ_=>False,child,w⟩,q:=upd S.q gs.size 0,mn:=⟨if S.k+1<G.T then G.Fz (S.k+1)else G.BI 0 λ_=>false,k0,o0,g2,w⟩},_,w,sl,_,bh,?_,?_⟩
 .refine .left _ _ ?_;show 2*(G.T-(S.k+1))+(S.k+1-S.n)<2*(G.T-S.k)+(S.k-S.n)
  omega
 .refine⟨hb,by simp[hc];omega,hk,?_,h.Cs,h.Ct,λj hj=>?_,λj x hj zF hx=>?_,λj hj tZ=>?_,?_,h.cnt,λi hi=>h.ME i (by show _;have:b+(S.k+1)<=i:=hi;omega),λm=>?_,λBC=>⟨P8,hM0⟩⟩
  .rw[ZM];refine Vq.si λg=>?_;show(g=0\/(b<=g/\g<b+(S.k+1)/\S.dG g≠ .left))↔((g=0\/(b<=g/\g<b+S.k/\S.dG g≠ .left))\/g=gs.size)
   constructor
   .rintro(e|⟨e1,e2,e3⟩)
    .exact .inl (.inl e)
    .by_cases e:g=gs.size
     .exact .inr e
     .exact .inl (.inr ⟨e1,by omega,e3⟩)
   .rintro((e|⟨e1,e2,e3⟩)|e)
    .exact .inl e
    .exact .inr ⟨e1,by omega,e3⟩
    .rw[e];exact .inr ⟨by omega,by omega,by rw[rP];simp⟩
  .by_cases e:j=gs.size
   .subst e;show¬upd (upd S.kn 0 k0) gs.size K gs.size _/\¬upd (upd S.kn 0 k0) gs.size K gs.size _;rw[upd_same];exact⟨λx=>nc1 (s5 _ x),λx=>nc2 (s5 _ x)⟩
   .show¬upd (upd S.kn 0 k0) gs.size K j _/\¬upd (upd S.kn 0 k0) gs.size K j _;rw[upd_ne _ _ e];by_cases e0:j=0
    .subst e0;rw[upd_same];exact⟨λx=>nc1 (s6 _ x),λx=>nc2 (s6 _ x)⟩
    .rw[upd_ne _ _ e0];refine h.JN j ?_;rcases hj with hj|⟨hj1,oB,Pp⟩
     .exact absurd hj e0
     .exact .inr ⟨hj1,by have:j<b+(S.k+1):=oB;omega,Pp⟩
  .rw[ZN j (by omega) (by omega)]at hx;show QuitsIn P (upd S.q gs.size 0 j) x;rw[upd_ne _ _ (by omega)];exact h.old j x hj zF hx
  .by_cases e:j=gs.size
   .subst e;refine⟨λ_=>?_,?_⟩
    .simp only[upd_same];exact⟨Qo,by rw[hc];simp,λx=>by rw[hc];simpa using x,trivial,trivial,Env.refl _ _,trivial⟩
    .show(match S.dG gs.size with|.run=>_|.po=>_|.pd=>_|.left=>_);rw[rP];simp only[upd_same];refine⟨?_,s4⟩;rw[zBK];simp
   .have zeP:j<b+S.k:=by have:j<b+(S.k+1):=tZ;omega
    have e0:j≠0:=by omega
    exact(h.wk j hj zeP).other rfl (upd_ne _ _ e) (upd_ne _ _ e) (by show upd (upd S.kn 0 k0) gs.size K j=_;rw[upd_ne _ _ e,upd_ne _ _ e0]) (by show upd (upd S.own 0 o0) gs.size _ j=_;rw[upd_ne _ _ e,upd_ne _ _ e0])
     (ZN j e0 (by omega)) λ_=>Env.refl _ _
  .have e:(0:Nat)≠gs.size:=by omega
   refine⟨?_,?_,Env.refl _ _,?_⟩
   .show upd (upd S.kn 0 k0) gs.size K 0=k0;rw[upd_ne _ _ e,upd_same]
   .show upd (upd S.own 0 o0) gs.size (λ_=>False) 0=o0;rw[upd_ne _ _ e,upd_same]
   .show(match S.mp with|true=>_|false=>_);rw[hm];refine⟨?_,s3,s11,?_⟩
    .rw[zBK];simp only[zDV];rw[zAG (by omega)];exact aV _ cB
    .show(if S.k+1<G.T then G.Fz (S.k+1)else G.BI 0 λ_=>false)=(if S.k+1<G.T then G.Fz (S.k+1)else if S.n<G.T then G.BI S.n S.M else G.Out S.M)
     rw[P8,zAE G.pos,show S.M=λ_=>false from funext hM0]
  .show S.M m=true↔(m<S.k+1/\G.E m=true/\(upd S.x gs.size ⟨G.vm S.k,G.E S.k,K,λ_=>False,child,w⟩ (b+m)).s=false)
   rw[hM0 m];constructor
   .intro x;cases x
   .rintro⟨x1,x2,x3⟩;exfalso;by_cases e:m=S.k
    .subst e;rw[hc,upd_same]at x3;simp only at x3;rw[x2]at x3;cases x3
    .rw[upd_ne _ _ (by omega)]at x3;have:=(h.marks m).2 ⟨by omega,x2,x3⟩;rw[hM0 m]at this;cases this
def Inv.ZR (h:Inv G b S gs w t) (hb:b<=i) (hk:i<b+S.k) (hs:S.dG i=.run) (hm:S.mp=false) {st:qQ} (cD:st=.po\/st=.pd) {g':Goroutine} (ZJ:∀e∈es,Id (S.x i).kn (S.x i).own e)
 (bh:runT P (crowd gs w sl) i=(.next (crowd (gs.setIfInBounds i g') w sl),MemOp.ofEvents i (S.x i).g.frame.fn (S.x i).g.frame.place es))
 (JO:St.Wk G b {S with dG:=upd S.dG i st} (gs.setIfInBounds i g') w i):qR G b S gs w sl t i:=by
 have hn:S.dG i≠ .left:=by rw[hs];simp
 have xh:st≠ .left:=by rcases cD with rfl|rfl<;>simp
 obtain⟨a1,a2,a3,a4,a5,a6,a7⟩:=(h.wk i hb hk).1 hn;have hi:S.act b i:=.inr ⟨hb,hk,hn⟩;have bJ:=h.b1
 have qS:∀j,(upd S.dG i st j=.left↔S.dG j=.left):=λj=>by
  by_cases e:j=i
  .subst e;rw[upd_same];exact⟨λx=>absurd x xh,λx=>absurd x hn⟩
  .rw[upd_ne _ _ e]
 refine⟨{S with dG:=upd S.dG i st},_,w,sl,_,bh,?_,?_⟩
 .refine .right _ (.left _ _ ⟨i,by have:=h.kT;omega,?_,λj hj=>?_⟩)
  .show Prod.Lex _ _ (S.x i,if upd S.dG i st i=qQ.run then 1 else 0) (S.x i,if S.dG i=qQ.run then 1 else 0);rw[upd_same,hs,zAE rfl,zAG (by rcases cD with rfl|rfl<;>simp)];exact .right _ Nat.zero_lt_one
  .show(S.x j,if upd S.dG i st j=qQ.run then 1 else 0)=_;rw[upd_ne _ _ hj]
 .refine⟨bJ,by simpa using h.size,h.kT,?_,h.Cs,h.Ct,λj hj=>h.JN j ?_,λj x hj zF hx=>?_,λj hj tZ=>?_,?_,?_,λj hj=>?_,h.marks,h.early⟩
  .refine(h.co.ZL hi (by rw[a4,a5];exact ZJ) _ _).si λg=>?_;show(g=0\/(b<=g/\g<b+S.k/\upd S.dG i st g≠ .left))↔(g=0\/(b<=g/\g<b+S.k/\S.dG g≠ .left))
   rw[Ne,qS]
  .rcases hj with hj|⟨h1,h2,h3⟩
   .exact .inl hj
   .exact .inr ⟨h1,h2,λx=>h3 ((qS j).2 x)⟩
  .rw[aK _ (by omega)]at hx;exact h.old j x hj zF hx
  .by_cases e:j=i
   .subst e;exact JO
   .exact(h.wk j hj tZ).other (upd_ne _ _ e) rfl rfl rfl rfl (aK _ e) λ_=>Env.refl _ _
  .exact h.main.other rfl rfl rfl rfl rfl rfl rfl (aK _ (by omega)) (Env.refl _ _) λx=>by rw[hm]at x;cases x
  .rw[<-h.cnt];refine sumTo_congr λj _=>?_;show(if upd S.dG i st (b+j)=qQ.left then 1 else 0)=_;by_cases e:S.dG (b+j)=.left
   .rw[zAE ((qS _).2 e),zAE e]
   .rw[zAG λx=>e ((qS _).1 x),zAG e]
  .show upd S.dG i st j=.run;have:b+S.k<=j:=hj;rw[upd_ne _ _ (by omega)];exact h.ME j hj
def Inv.Ih (h:Inv G b S gs w t) (hc:c=G.co\/c=G.cd) (hh:∀r,r≠c->w'.heap[r]?=w.heap[r]?) (cB:w'.heap.size=w.heap.size/\w'.os=w.os/\w'.output=w.output) (hj:S.act b j):Env (S.kn j) w w':=
 ⟨by omega,λr hr=>hh r λe=>by
   obtain⟨n1,n2⟩:=h.JN j hj;subst e;rcases hc with rfl|rfl
   .exact n1 hr
   .exact n2 hr,cB.2.1,cB.2.2⟩
def Inv.Ii (h:Inv G b S gs w t) (hb:b<=j) (hk:j<b+S.k) (hs:S.dG j=.run\/S.dG j=.po) (Hw:(S.x j).s=true) {w1:nq} {es1:Array Event} (e1:Env (S.x j).kn (S.x j).w w1) (e2:Env (S.x j).kn w1 w)
 (cu:stepG P false (S.x j).g w1=.comm (S.x j).g #[scase G.co (S.x j).vm z] true .send w1 es1)
 (hn:S.n<G.T) (To:S.k=G.T) (Cx:G.BI S.n S.M S.mn.kn S.mn.own S.mn.g wm) (em:Env S.mn.kn wm w)
 (FA:stepG P true S.mn.g wm=.comm S.mn.g #[rcase G.co z1,rcase G.cd z2] true .select wm ZT)
 (hh:∀r,r≠G.co->w'.heap[r]?=w.heap[r]?) (cB:w'.heap.size=w.heap.size/\w'.os=w.os/\w'.output=w.output) (nD:isChan w' G.co)
 (g0:fT[0]?=some (S.mn.g.finishComm P #[rcase G.co z1,rcase G.cd z2] .select (0:Nat) (S.x j).vm true)) (gj:fT[j]?=some (Conc.served (S.x j).g undef)) (go:∀i,i≠0->i≠j->fT[i]?=gs[i]?) (vC:fT.size=gs.size)
 (Vr:Co (S.act b) S.kn S.own w'.heap.size t'):∃S',Mu.lt P G.co G.cd (b+G.T) (S'.mu G b) (S.mu G b)/\Inv G b S' fT w' t':=by
 have EJ:S.dG j≠ .left:=by rcases hs with hs|hs<;>rw[hs]<;>simp
 obtain⟨a1,a2,a3,a4,a5,a6,a7⟩:=(h.wk j hb hk).1 EJ;obtain⟨m1,m2,m3,_⟩:=h.main;have bJ:=h.b1;have hj:S.act b j:=.inr ⟨hb,hk,EJ⟩;have env:∀{i},S.act b i->Env (S.kn i) w w':=λhi=>h.Ih (.inl rfl) hh cB hi;obtain⟨es,y,y',l1,l2,l3,_⟩:=G.sel _ _ _ _ _ _ hn Cx;rw[FA]at l1;simp only[GStep.comm.injEq,zDC,zCQ,rcase,CommCase.mk.injEq,zCS,zER]at l1;obtain⟨⟨rfl,rfl⟩,rfl⟩:=l1;have hE:=a3 Hw;have hmT:j-b<G.T:=by omega
 have qS:∀i,(upd S.dG j .run i=.left↔S.dG i=.left):=λi=>by
  by_cases e:i=j
  .subst e;rw[upd_same];exact⟨λx=>(by cases x),λx=>absurd x EJ⟩
  .rw[upd_ne _ _ e]
 refine⟨{S with M:=λa=>if a=j-b then true else S.M a,dG:=upd S.dG j .run,x:=upd S.x j ⟨(S.x j).vm,false,(S.x j).kn,(S.x j).own,Conc.served (S.x j).g undef,w1⟩,mp:=false,mn:=⟨G.BI S.n λa=>if a=j-b then true else S.M a,S.mn.kn,S.mn.own,S.mn.g.finishComm P #[rcase G.co z1,rcase G.cd z2] .select (0:Nat) (S.x j).vm true,w'⟩},?_,?_⟩
 .refine .right _ (.left _ _ ⟨j,by omega,?_,λi hi=>?_⟩)
  .show Prod.Lex _ _ (upd S.x j _ j,_) (S.x j,_);rw[upd_same];exact .left _ _ ⟨a1,rfl,w1,e1,.inr ⟨z,es1,cu,rfl,rfl,rfl,rfl,rfl⟩⟩
  .show(upd S.x j _ i,if upd S.dG j .run i=qQ.run then 1 else 0)=_;rw[upd_ne _ _ hi,upd_ne _ _ hi]
 .refine⟨bJ,by rw[vC];exact h.size,h.kT,?_,nD,?_,λi hi=>h.JN i ?_,λi x hi Ij hx=>?_,λi hi Qp=>?_,?_,?_,λi hi=>?_,λm=>?_,λx=>by have:S.k<G.T:=x;omega⟩
  .refine Vr.si λg=>?_;show(g=0\/(b<=g/\g<b+S.k/\upd S.dG j .run g≠ .left))↔(g=0\/(b<=g/\g<b+S.k/\S.dG g≠ .left))
   rw[Ne,qS]
  .obtain⟨s,tm,hc⟩:=h.Ct;exact⟨s,tm,(hh _ (Ne.symm G.ne)).trans hc⟩
  .rcases hi with hi|⟨h1,h2,h3⟩
   .exact .inl hi
   .exact .inr ⟨h1,h2,λx=>h3 ((qS i).2 x)⟩
  .rw[go i (by omega) (by omega)]at hx;exact h.old i x hi Ij hx
  .by_cases e:i=j
   .subst e;refine⟨λ_=>?_,?_⟩
    .simp only[upd_same];refine⟨?_,a2,λx=>(by cases x),a4,a5,e2.trans (a4▸env hj),a7⟩;have uy:=a1;cases uy with
     |mk ok go Vn=>exact Vn w1 z es1 e1 cu
    .show(match upd S.dG i .run i with|.run=>_|.po=>_|.pd=>_|.left=>_);simp only[upd_same];exact⟨gj,rfl⟩
   .exact(h.wk i hi Qp).other (upd_ne _ _ e) (upd_ne _ _ e) rfl rfl rfl (go i (by omega) e) λhn=>env (.inr ⟨hi,Qp,hn⟩)
  .refine⟨m1,m2,Env.refl _ _,g0,rfl,?_,?_⟩
   .show kY P _ S.mn.kn S.mn.own _ w';rw[a2];exact l3 w' (j-b) (em.trans (m1▸env (.inl rfl))) hmT hE
   .show G.BI S.n _=(if S.k<G.T then G.Fz S.k else if S.n<G.T then G.BI S.n _ else G.Out _)
    rw[zAG (by omega),zAE hn]
  .rw[<-h.cnt];refine sumTo_congr λi _=>?_;show(if upd S.dG j .run (b+i)=qQ.left then 1 else 0)=_;by_cases e:S.dG (b+i)=.left
   .rw[zAE ((qS _).2 e),zAE e]
   .rw[zAG λx=>e ((qS _).1 x),zAG e]
  .show upd S.dG j .run i=.run;have:b+S.k<=i:=hi;rw[upd_ne _ _ (by omega)];exact h.ME i hi
  .show(if m=j-b then true else S.M m)=true↔(m<S.k/\G.E m=true/\(upd S.x j _ (b+m)).s=false)
   by_cases e:m=j-b
   .have e':b+m=j:=by omega
    rw[zAE e,e',upd_same];exact⟨λ_=>⟨by omega,by rw[e];exact hE,rfl⟩,λ_=>rfl⟩
   .rw[zAG e,upd_ne _ _ (by omega)];exact h.marks m
def Inv.Cy (h:Inv G b S gs w t) (hb:b<=j) (hk:j<b+S.k) (hs:S.dG j≠ .left) (Hw:(S.x j).s=false) (hq:QuitsIn P q (Conc.served (S.x j).g undef))
 (hn:S.n<G.T) (To:S.k=G.T) (Cx:G.BI S.n S.M S.mn.kn S.mn.own S.mn.g wm) (em:Env S.mn.kn wm w)
 (FA:stepG P true S.mn.g wm=.comm S.mn.g #[rcase G.co z1,rcase G.cd z2] true .select wm ZT)
 (hh:∀r,r≠G.cd->w'.heap[r]?=w.heap[r]?) (cB:w'.heap.size=w.heap.size/\w'.os=w.os/\w'.output=w.output) (hcd:isChan w' G.cd)
 (g0:fT[0]?=some (S.mn.g.finishComm P #[rcase G.co z1,rcase G.cd z2] .select (1:Nat) v true)) (gj:fT[j]?=some (Conc.served (S.x j).g undef)) (go:∀i,i≠0->i≠j->fT[i]?=gs[i]?) (vC:fT.size=gs.size)
 (Vr:Co (λg=>S.act b g/\g≠j) S.kn S.own w'.heap.size t'):∃S',Mu.lt P G.co G.cd (b+G.T) (S'.mu G b) (S.mu G b)/\Inv G b S' fT w' t':=by
 obtain⟨m1,m2,m3,_⟩:=h.main;have bJ:=h.b1;have env:∀{i},S.act b i->Env (S.kn i) w w':=λhi=>h.Ih (.inr rfl) hh cB hi;obtain⟨es,y,y',l1,l2,_,l3⟩:=G.sel _ _ _ _ _ _ hn Cx;rw[FA]at l1;simp only[GStep.comm.injEq,zDC,zCQ,rcase,CommCase.mk.injEq,zCS,zER]at l1;obtain⟨⟨rfl,rfl⟩,rfl⟩:=l1;have hmT:j-b<G.T:=by omega
 have hM:S.n+1=G.T->∀m,m<G.T->S.M m=G.E m:=by
  intro Tp m hm
  have Vs:(S.x (b+m)).s=false:=by
   by_cases e:m=j-b
   .rw[show b+m=j by omega];exact Hw
   .have hl:S.dG (b+m)=.left:=by
     refine zBF λEJ=>?_;have e1:=sumTo_upd (λa=>S.dG (b+a)) qQ.left (λs=>if s=qQ.left then 1 else 0) hmT;have e2:=sumTo_upd (upd (λa=>S.dG (b+a)) (j-b) qQ.left) qQ.left (λs=>if s=qQ.left then 1 else 0) hm;rw[upd_ne _ _ e]at e2;rw[h.cnt]at e1;simp only[zAG EJ,show b+(j-b)=j by omega,zAG hs,zAE]at e1 e2;have:=sumTo_le (f:=λa=>if upd (upd (λa=>S.dG (b+a)) (j-b) qQ.left) m qQ.left a=qQ.left then 1 else 0) (c:=1) (j:=G.T) λi _=>by split<;>omega
     omega
    have hw:=(h.wk (b+m) (by omega) (by omega)).2;rw[hl]at hw;exact hw.1
  have:=h.marks m;rw[Vs]at this;cases hE:G.E m with
  |true=>exact this.2 ⟨by omega,hE,rfl⟩
  |false=>
   cases hMm:S.M m with
   |false=>rfl
   |true=>have:=(this.1 hMm).2.1;rw[hE]at this;cases this
 refine⟨{S with n:=S.n+1,dG:=upd S.dG j .left,q:=upd S.q j q,mp:=false,mn:=⟨if S.n+1<G.T then G.BI (S.n+1) S.M else G.Out S.M,S.mn.kn,S.mn.own,S.mn.g.finishComm P #[rcase G.co z1,rcase G.cd z2] .select (1:Nat) v true,w'⟩},?_,?_⟩
 .refine .left _ _ ?_;show 2*(G.T-S.k)+(S.k-(S.n+1))<2*(G.T-S.k)+(S.k-S.n)
  omega
 .refine⟨bJ,by rw[vC];exact h.size,h.kT,?_,?_,hcd,λi hi=>h.JN i ?_,λi x hi Ij hx=>?_,λi hi Qp=>?_,?_,?_,λi hi=>?_,h.marks,λx=>by have:S.k<G.T:=x;omega⟩
  .refine Vr.si λg=>?_;show(g=0\/(b<=g/\g<b+S.k/\upd S.dG j .left g≠ .left))↔((g=0\/(b<=g/\g<b+S.k/\S.dG g≠ .left))/\g≠j)
   by_cases e:g=j
   .subst e;rw[upd_same];simp;omega
   .rw[upd_ne _ _ e];simp[e]
  .obtain⟨s,tm,hc⟩:=h.Cs;exact⟨s,tm,(hh _ G.ne).trans hc⟩
  .rcases hi with hi|⟨h1,h2,h3⟩
   .exact .inl hi
   .have h3:upd S.dG j .left i≠ .left:=h3;by_cases e:i=j
    .subst e;rw[upd_same]at h3;exact absurd rfl h3
    .rw[upd_ne _ _ e]at h3;exact .inr ⟨h1,h2,h3⟩
  .rw[go i (by omega) (by omega)]at hx;show QuitsIn P (upd S.q j q i) x;rw[upd_ne _ _ (by omega)];exact h.old i x hi Ij hx
  .by_cases e:i=j
   .subst e;refine⟨λx=>?_,?_⟩
    .have x:upd S.dG i .left i≠ .left:=x;rw[upd_same]at x;exact absurd rfl x
    .show(match upd S.dG i .left i with|.run=>_|.po=>_|.pd=>_|.left=>_);simp only[upd_same];exact⟨Hw,_,gj,hq⟩
   .exact(h.wk i hi Qp).other (upd_ne _ _ e) rfl (upd_ne _ _ e) rfl rfl (go i (by omega) e) λhn=>env (.inr ⟨hi,Qp,hn⟩)
  .refine⟨m1,m2,Env.refl _ _,g0,rfl,?_,?_⟩
   .show kY P _ S.mn.kn S.mn.own _ w';exact l3 w' v (em.trans (m1▸env (.inl rfl))) hM
   .show _=(if S.k<G.T then G.Fz S.k else if S.n+1<G.T then G.BI (S.n+1) S.M else G.Out S.M)
    rw[zAG (show¬S.k<G.T by omega)]
  .have:=sumTo_upd (λa=>S.dG (b+a)) qQ.left (λs=>if s=qQ.left then 1 else 0) hmT;rw[h.cnt]at this;have e:b+(j-b)=j:=by omega
   simp only[e,zAG hs,zAE]at this;rw[<-this];show sumTo G.T (λa=>if upd S.dG j .left (b+a)=qQ.left then 1 else 0)=_;rw[zCH];refine sumTo_congr λa _=>?_;by_cases ea:a=j-b
   .subst ea;rw[e,upd_same,upd_same]
   .rw[upd_ne _ _ ea,upd_ne _ _ (by omega)]
  .show upd S.dG j .left i=.run;have:b+S.k<=i:=hi;rw[upd_ne _ _ (by omega)];exact h.ME i hi
end
def vD {f:Nat->Nat}:∀{n:Nat},(∀j,j<n->f j=1)->sumTo n f=n
 |0,_=>rfl
 |n+1,h=>by
  have:=vD (n:=n) λj hj=>h j (by omega);simp only[sumTo,this,h n (by omega)]
section
variable {P:un} {G:jK P} {b:Nat} {S S':St} {gs fT:Array Goroutine} {w w':nq} {t t':Trace} {sl:Option (Nat × Nat)}
def Co.comm (h:Co A kn own B t) (hc:c<B) (h1:x1.act=.send c s) (h2:x2.act=.recv c r 0) (h3:x3.act=.sendDone c s) (h4:x4.act=.recvDone c r):
 Co A kn own B (t++#[x1,x2,x3,x4]):=by
 refine h.mute (λop cr=>?_) (λop cr=>?_) λop cr=>?_
 all_goals
  have:op=x1\/op=x2\/op=x3\/op=x4:=by simpa using cr
  rcases this with rfl|rfl|rfl|rfl
 .rw[h1];rfl
 .rw[h2];rfl
 .rw[h3];rfl
 .rw[h4];rfl
 .rw[h1];exact⟨by simp,by simp⟩
 .rw[h2];exact⟨by simp,by simp⟩
 .rw[h3];exact⟨by simp,by simp⟩
 .rw[h4];exact⟨by simp,by simp⟩
 .rw[h1];exact hc
 .rw[h2];exact hc
 .rw[h3];exact hc
 .rw[h4];exact hc
def g?_of_touch {t:Trace} {a:Touch} (h:touchAt t i=some a):i<t.size:=by
 obtain⟨op,h1,_⟩:=ic h;exact lt_size_of_getElem? h1
def Co.left (h:Co A kn own B t) (hc:c<B) (h1:x1.act=.send c s) (g1:x1.g=j) (h2:x2.act=.recv c s 0) (h3:x3.act=.sendDone c s) (h4:x4.act=.recvDone c s) (g4:x4.g=0):
 Co (λg=>A g/\g≠j) kn own B (t++#[x1,x2,x3,x4]):=by
 have nD:=h.comm hc h1 h2 h3 h4;refine nD.drop λi a hi hg=>?_
 have au:i<t.size:=by
  rcases gT hi with hi|⟨op,cr,_,hb⟩
  .exact g?_of_touch hi
  .exfalso;have:op=x1\/op=x2\/op=x3\/op=x4:=by simpa using cr
   rcases this with rfl|rfl|rfl|rfl
   .rw[h1]at hb;cases hb
   .rw[h2]at hb;cases hb
   .rw[h3]at hb;cases hb
   .rw[h4]at hb;cases hb
 rw[g?_old au]at hg;exact handed (u:=#[x1,x2,x3,x4]) nD.calm (k:=0) (m:=3) (x:=x1) (y:=x4) rfl g1 h1 rfl g4 h4 hg
abbrev ZU (i:Nat) (fi:FuncId) (pi:String) (j:Nat) (fj:FuncId) (pj:String) (c s:Nat):Array MemOp:=
 #[{g:=i,fn:=fi,pos:=pi,act:=.send c s},{g:=j,fn:=fj,pos:=pj,act:=.recv c s 0},{g:=i,fn:=fi,pos:=pi,act:=.sendDone c s},{g:=j,fn:=fj,pos:=pj,act:=.recvDone c s}]
def Co.Tq (h:Co A kn own B t) (hc:c<B) (i:Nat) (fi:FuncId) (pi:String) (j:Nat) (fj:FuncId) (pj:String) (s:Nat):Co A kn own B (t++ZU i fi pi j fj pj c s):=
 h.comm hc rfl rfl rfl rfl
def Co.Tt (h:Co A kn own B t) (hc:c<B) (i:Nat) (fi:FuncId) (pi:String) (fj:FuncId) (pj:String) (s:Nat):Co (λg=>A g/\g≠i) kn own B (t++ZU i fi pi 0 fj pj c s):=
 h.left hc rfl rfl rfl rfl rfl rfl
def iQ (w:nq) {cap:Nat} {buf:Array fu} {cl:Bool} (h:r≠c):(w.setChan c cap buf cl s q tm).heap[r]?=w.heap[r]?:=by
 show(w.heap.setIfInBounds c _)[r]?=_;exact aK _ h
def dO (w:nq) (c cap s q:Nat) (buf:Array fu) (cl tm:Bool):(w.setChan c cap buf cl s q tm).heap.size=w.heap.size:=by
 show(w.heap.setIfInBounds c _).size=_;simp
def ie {w:nq} (h:c<w.heap.size):isChan (w.setChan c 0 #[] false s s tm) c:=⟨s,tm,by
 show(w.heap.setIfInBounds c _)[c]?=_;exact aV _ h⟩
def FB {a:Array Goroutine} {x y:Goroutine} (sL:j≠i) (hi:i<a.size) (hj:j<a.size):
 ((a.setIfInBounds j x).setIfInBounds i y)[i]?=some y/\((a.setIfInBounds j x).setIfInBounds i y)[j]?=some x/\(∀k,k≠i->k≠j->((a.setIfInBounds j x).setIfInBounds i y)[k]?=a[k]?)/\((a.setIfInBounds j x).setIfInBounds i y).size=a.size:=by
 refine⟨aV _ (by simpa using hi),?_,λk h1 h2=>?_,by simp⟩
 .rw[aK _ sL];exact aV _ hj
 .rw[aK _ h1,aK _ h2]
def Inv.yy (h:Inv G b S gs w t) (hk:i<b+S.k) (hm:S.mp=false) (hc:isChan w c) (hi:gs[i]?=some g) (gC:0<i) (cD:stepG P false g w=.comm g #[scase c v z] true .send w es):
 runT P (crowd gs w sl) i=(.next (crowd (gs.setIfInBounds i (parked g #[scase c v z] .send)) w sl),MemOp.ofEvents i g.frame.fn g.frame.place es):=by
 have xg:(i==0)=false:=by simp;omega
 obtain⟨s,tm,hc⟩:=hc;refine crowd_waits hi (by rw[xg];exact cD) λcc xy=>?_;have:cc=scase c v z:=by simpa using xy
 rw[this];refine ways_send_none hc (zAJ _) (partners_nil λj x hx=>?_);rcases getElem?_stand _ _ _ _ hx with⟨_,rfl⟩|⟨_,hx⟩
 .exact offersAt_ph _ _
 .exact h.sW hx (λe=>by rw[hm]at e;cases e.2) c
def Inv.yz (h:Inv G b S gs w t) (hm:S.mp=true) {k:Nat} (Qn:gs[0]?=some (parked S.mn.g #[rcase G.co z1,rcase G.cd z2] .select)) (hk:(c=G.co/\k=0)\/(c=G.cd/\k=1))
 (hc:w.heap[c]?=some (.chan 0 #[] false s s tm)) (hi:gs[i]?=some g) (gC:0<i) (cD:stepG P false g w=.comm g #[scase c v z] true .send w es):
 runT P (crowd gs w sl) i=(.next (crowd ((gs.setIfInBounds 0 (S.mn.g.finishComm P #[rcase G.co z1,rcase G.cd z2] .select k v true)).setIfInBounds i (Conc.served g undef)) (w.setChan c 0 #[] false (s+1) (s+1) tm) sl),
  MemOp.ofEvents i g.frame.fn g.frame.place es++#[{g:=i,fn:=g.frame.fn,pos:=g.frame.place,act:=.send c s},{g:=0,fn:=S.mn.g.frame.fn,pos:=S.mn.g.frame.place,act:=.recv c s 0},
   {g:=i,fn:=g.frame.fn,pos:=g.frame.place,act:=.sendDone c s},{g:=0,fn:=S.mn.g.frame.fn,pos:=S.mn.g.frame.place,act:=.recvDone c s}]):=by
 have xg:(i==0)=false:=by simp;omega
 have lq:∃z',(#[rcase G.co z1,rcase G.cd z2]:Array CommCase)[k]?=some (rcase c z'):=by
  rcases hk with⟨rfl,rfl⟩|⟨rfl,rfl⟩
  .exact⟨z1,rfl⟩
  .exact⟨z2,rfl⟩
 obtain⟨z',lq⟩:=lq
 have hu:∀(m:Nat) (cc:CommCase),m≠k->(#[rcase G.co z1,rcase G.cd z2]:Array CommCase)[m]?=some cc->cc.chan≠ .chan (some c):=by
  intro m cc jb xy;have bu:=G.ne;match m with
  |0=>
   have:cc=rcase G.co z1:=by simpa using xy.symm
   rw[this];rcases hk with⟨rfl,rfl⟩|⟨rfl,rfl⟩
   .exact absurd rfl jb
   .simp[rcase,bu]
  |1=>
   have:cc=rcase G.cd z2:=by simpa using xy.symm
   rw[this];rcases hk with⟨rfl,rfl⟩|⟨rfl,rfl⟩
   .simp[rcase,Ne.symm bu]
   .exact absurd rfl jb
  |m+2=>simp at xy
 have JQ:offersAt (parked S.mn.g #[rcase G.co z1,rcase G.cd z2] .select) c false=[k]:=offersAt_parked_at lq hu
 have hp:partners (gs.setIfInBounds i ph) c false=[(0,k)]:=by
  rw[partners_one (stand_get (by omega) Qn) λj x hj hx=>?_,JQ]
  .rfl
  .rcases getElem?_stand _ _ _ _ hx with⟨_,rfl⟩|⟨_,hx⟩
   .exact offersAt_ph _ _
   .exact h.sW hx (λe=>hj e.1) c
 exact crowd_send_meets_sel hi (by rw[xg];exact cD) hc (by omega) Qn lq hp
def Inv.FC (h:Inv G b S gs w t) (hb:b<=i) (hk:i<b+S.k) (hs:S.dG i=.run):qR G b S gs w sl t i:=by
 have JO:=h.wk i hb hk;have hn:S.dG i≠ .left:=by rw[hs];simp
 obtain⟨a1,a2,a3,a4,a5,a6,a7⟩:=JO.1 hn;have c:=JO.2;rw[hs]at c;obtain⟨c1,c2⟩:=c;have bJ:=h.b1;have hi:S.act b i:=.inr ⟨hb,hk,hn⟩;have cB:i<gs.size:=(zAC.1 c1).1;have Te:=a1;cases Te with
 |mk ok go Vn=>
  rcases ok w a6 with⟨g2,w3,es,h1,h2,h3⟩|⟨z,es,h1,h2,h3⟩|⟨v,z,es,q,h1,h2,h3,h4⟩
  .exact h.MG hb hk hs h1 h2 h3
  .cases hm:S.mp with
   |false=>
    have bh:=h.yy (sl:=sl) hk hm h.Cs c1 (by omega) h2;refine h.ZR hb hk hs hm (.inl rfl) h3 bh ⟨λ_=>⟨a1,a2,a3,a4,a5,a6,a7⟩,?_⟩;show(match upd S.dG i .po i with|.run=>_|.po=>_|.pd=>_|.left=>_);rw[upd_same];exact⟨h1,w,z,es,a6,Env.refl _ _,h2,aV _ cB⟩
   |true=>
    obtain⟨m1,m2,m3,m4⟩:=h.main;rw[hm]at m4;obtain⟨k1,k2,⟨wm,z1,z2,ZT,n1,n2,n3,n4⟩,_⟩:=m4;obtain⟨s,tm,Ib⟩:=h.Cs;have bh:=h.yz (sl:=sl) hm n4 (.inl ⟨rfl,rfl⟩) Ib c1 (by omega) h2;obtain⟨q1,q2,q3,q4⟩:=FB (a:=gs) (i:=i) (j:=0) (x:=S.mn.g.finishComm P #[rcase G.co z1,rcase G.cd z2] .select (0:Nat) (S.x i).vm true) (y:=Conc.served (S.x i).g undef) (by omega) cB (by omega);have au:=h.Cs.lt
    obtain⟨S',r1,r2⟩:=h.Ii (w':=w.setChan G.co 0 #[] false (s+1) (s+1) tm) hb hk (.inl hs) h1 a6 (Env.refl _ _) h2 k2 k1 n1 n2 n3 (λr hr=>iQ w hr) ⟨dO ..,rfl,rfl⟩ (ie au) q2 q1 (λk e1 e2=>q3 k e2 e1) q4
     (by rw[dO];exact(h.co.ZL hi (es:=es) (by rw[a4,a5];exact h3) (S.x i).g.frame.fn (S.x i).g.frame.place).Tq au i (S.x i).g.frame.fn (S.x i).g.frame.place 0 S.mn.g.frame.fn S.mn.g.frame.place s)
    exact⟨S',_,_,_,_,bh,r1,by rw[<-zEW];exact r2⟩
  .cases hm:S.mp with
   |false=>
    have bh:=h.yy (sl:=sl) hk hm h.Ct c1 (by omega) h2;refine h.ZR hb hk hs hm (.inr rfl) h3 bh ⟨λ_=>⟨a1,a2,a3,a4,a5,a6,a7⟩,?_⟩;show(match upd S.dG i .pd i with|.run=>_|.po=>_|.pd=>_|.left=>_);rw[upd_same];exact⟨h1,v,z,q,aV _ cB,h4⟩
   |true=>
    obtain⟨m1,m2,m3,m4⟩:=h.main;rw[hm]at m4;obtain⟨k1,k2,⟨wm,z1,z2,ZT,n1,n2,n3,n4⟩,_⟩:=m4;obtain⟨s,tm,Ib⟩:=h.Ct;have bh:=h.yz (sl:=sl) hm n4 (.inr ⟨rfl,rfl⟩) Ib c1 (by omega) h2;obtain⟨q1,q2,q3,q4⟩:=FB (a:=gs) (i:=i) (j:=0) (x:=S.mn.g.finishComm P #[rcase G.co z1,rcase G.cd z2] .select (1:Nat) v true) (y:=Conc.served (S.x i).g undef) (by omega) cB (by omega);have au:=h.Ct.lt
    obtain⟨S',r1,r2⟩:=h.Cy (w':=w.setChan G.cd 0 #[] false (s+1) (s+1) tm) (v:=v) hb hk hn h1 h4 k2 k1 n1 n2 n3 (λr hr=>iQ w hr) ⟨dO ..,rfl,rfl⟩ (ie au) q2 q1 (λk e1 e2=>q3 k e2 e1) q4
     (by rw[dO];exact(h.co.ZL hi (es:=es) (by rw[a4,a5];exact h3) (S.x i).g.frame.fn (S.x i).g.frame.place).Tt au i (S.x i).g.frame.fn (S.x i).g.frame.place S.mn.g.frame.fn S.mn.g.frame.place s)
    exact⟨S',_,_,_,_,bh,r1,by rw[<-zEW];exact r2⟩
def Inv.FE (h:Inv G b S gs w t) (hm:S.mp=false) (To:S.k=G.T) (hn:S.n<G.T) (Cx:G.BI S.n S.M S.mn.kn S.mn.own S.mn.g w):qR G b S gs w sl t 0:=by
 obtain⟨m1,m2,m3,m4⟩:=h.main;rw[hm]at m4;obtain⟨c1,c2,c3,c4⟩:=m4;have h0:S.act b 0:=.inl rfl;have hb:=h.b1;obtain⟨es,z1,z2,l1,l2,_,_⟩:=G.sel _ _ _ _ _ _ hn Cx;have l1':=l1;have cB:0<gs.size:=(zAC.1 c1).1;obtain⟨so,tmo,Vt⟩:=h.Cs;obtain⟨sd,tmd,Vu⟩:=h.Ct;have Vv:=h.co.ZL h0 (es:=es) (by rw[m1,m2];exact l2) S.mn.g.frame.fn S.mn.g.frame.place
 have mem:∀c j k,(j,k)∈partners (gs.setIfInBounds 0 ph) c true->k=0/\j≠0/\b<=j/\j<b+S.k/\
  ((c=G.co/\S.dG j=.po/\∃z,gs[j]?=some (parked (S.x j).g #[scase G.co (S.x j).vm z] .send))\/(c=G.cd/\S.dG j=.pd/\∃v z,gs[j]?=some (parked (S.x j).g #[scase G.cd v z] .send))):=by
  intro c j k tZ;obtain⟨x,hx,hk⟩:=mem_partners.1 tZ;rcases getElem?_stand _ _ _ _ hx with⟨_,rfl⟩|⟨hj,hx⟩
  .rw[offersAt_ph]at hk;cases hk
  rcases h.kinds hx with⟨h1,_⟩|⟨e1,e2,_⟩|⟨e1,e2,e3,z,e⟩|⟨e1,e2,e3,v,z,e⟩
  .rw[offersAt_of_not_blocked (λe=>by rcases h1 with h1|h1<;>rw[h1]at e<;>cases e)]at hk;cases hk
  .rw[hm]at e2;cases e2
  .rw[e,offersAt_parked_send]at hk;split at hk
   .rename_i ec;exact⟨by simpa using hk,hj,e1,e2,.inl ⟨ec.symm,e3,z,e▸hx⟩⟩
   .cases hk
  .rw[e,offersAt_parked_send]at hk;split at hk
   .rename_i ec;exact⟨by simpa using hk,hj,e1,e2,.inr ⟨ec.symm,e3,v,z,e▸hx⟩⟩
   .cases hk
 have zW:∀(m:Nat) (cc:CommCase),(#[rcase G.co z1,rcase G.cd z2]:Array CommCase)[m]?=some cc->(m=0/\cc=rcase G.co z1)\/(m=1/\cc=rcase G.cd z2):=by
  intro m cc xy;match m with
  |0=>exact .inl ⟨rfl,by simpa using xy.symm⟩
  |1=>exact .inr ⟨rfl,by simpa using xy.symm⟩
  |m+2=>simp at xy
 by_cases MH:partners (gs.setIfInBounds 0 ph) G.co true=[]/\partners (gs.setIfInBounds 0 ph) G.cd true=[]
 ·
  have bh:=crowd_waits (P:=P) (sl:=sl) c1 l1' λcc xy=>by
   have:cc=rcase G.co z1\/cc=rcase G.cd z2:=by simpa using xy
   rcases this with rfl|rfl
   .exact ways_recv_none Vt MH.1
   .exact ways_recv_none Vu MH.2
  refine⟨{S with mp:=true},_,w,sl,_,bh,?_,?_⟩
  .refine .right _ (.right _ (.left _ _ ?_));show Prod.Lex _ _ (S.mn,0) (S.mn,if S.mp=true then 0 else 1);rw[hm];exact .right _ Nat.zero_lt_one
  .refine⟨hb,by simpa using h.size,h.kT,Vv,h.Cs,h.Ct,h.JN,λj x hj zF hx=>?_,λj hj tZ=>?_,?_,h.cnt,h.ME,h.marks,h.early⟩
   .rw[aK _ (by omega)]at hx;exact h.old j x hj zF hx
   .exact(h.wk j hj tZ).other rfl rfl rfl rfl rfl (aK _ (by omega)) λ_=>Env.refl _ _
   .refine⟨m1,m2,m3,To,hn,⟨w,z1,z2,es,Cx,Env.refl _ _,l1,aV _ cB⟩,λi hi Qp=>?_⟩;have Qp:=Qp;have hw:=(h.wk i hi Qp).2;refine⟨λe=>?_,λe=>?_⟩
    .have e:=e;rw[e]at hw;obtain⟨_,w1,z,es1,_,_,_,hg⟩:=hw;have:(i,0)∈partners (gs.setIfInBounds 0 ph) G.co true:=mem_partners.2 ⟨_,stand_get (by omega) hg,by rw[offersAt_parked_send];simp⟩;rw[MH.1]at this;cases this
    .have e:=e;rw[e]at hw;obtain⟨_,v,z,q,hg,_⟩:=hw;have:(i,0)∈partners (gs.setIfInBounds 0 ph) G.cd true:=mem_partners.2 ⟨_,stand_get (by omega) hg,by rw[offersAt_parked_send];simp⟩;rw[MH.2]at this;cases this
 ·
  obtain⟨m,c,z,s,r,tm,j,gj,vj,zj,MB,d,k1,k2,k3,k4,bh⟩:=oU (P:=P) (sl:=sl) c1 l1' (λm cc xy=>by
   rcases zW m cc xy with⟨_,rfl⟩|⟨_,rfl⟩
   .refine⟨_,_,_,_,_,rfl,Vt,λj k tZ=>?_⟩;obtain⟨e1,e2,_,_,⟨_,_,z,e⟩|⟨e,_⟩⟩:=mem _ j k tZ
    .exact⟨e1,e2,_,_,_,_,e⟩
    .exact absurd e G.ne
   .refine⟨_,_,_,_,_,rfl,Vu,λj k tZ=>?_⟩;obtain⟨e1,e2,_,_,⟨e,_⟩|⟨_,_,v,z,e⟩⟩:=mem _ j k tZ
    .exact absurd e.symm G.ne
    .exact⟨e1,e2,_,_,_,_,e⟩) (by
   by_cases h1:partners (gs.setIfInBounds 0 ph) G.co true=[]
   .exact⟨1,_,_,rfl,λe=>MH ⟨h1,e⟩⟩
   .exact⟨0,_,_,rfl,h1⟩)
  have ZV:j<gs.size:=(zAC.1 k4).1;have Vw:=h.kinds k4
  have same:∀{g:Goroutine} {cs:Array CommCase} {sh:CommShape},parked gj #[scase c vj zj] MB=parked g cs sh->gj.frame=g.frame/\#[scase c vj zj]=cs/\MB=sh/\Conc.served gj undef=Conc.served g undef:=by
   intro g cs sh e;obtain⟨f1,f2,f3,f4,f5⟩:=gj;obtain⟨g1,g2,g3,g4,g5⟩:=g;simp only[parked,Goroutine.mk.injEq,zAB,zAH,zCS]at e;obtain⟨rfl,rfl,rfl,rfl,rfl⟩:=e;exact⟨rfl,rfl,rfl,rfl⟩
  rcases Vw with⟨e1,_⟩|⟨e1,_⟩|⟨e1,e2,e3,z',e⟩|⟨e1,e2,e3,v,z',e⟩
  .rcases e1 with e1|e1<;>cases e1
  .exact absurd e1 k3
  .obtain⟨f1,f2,f3,f4⟩:=same e;simp only[zDC,zCQ,scase,CommCase.mk.injEq,Value.chan.injEq,zAB,zER]at f2;obtain⟨rfl,rfl,rfl⟩:=f2;subst f3
   have Jv:m=0:=by
    rcases zW m _ k1 with⟨e0,_⟩|⟨_,hz⟩
    .exact e0
    .simp only[rcase,CommCase.mk.injEq,Value.chan.injEq,zAB]at hz;exact absurd hz.1 G.ne
   subst Jv;have JO:=(h.wk j e1 e2).2;rw[e3]at JO;obtain⟨x1,w1,zw,es1,x2,x3,x4,x5⟩:=JO;rw[Vt]at k2;simp only[zAB,Obj.chan.injEq,zCS]at k2;obtain⟨rfl,rfl,rfl⟩:=k2;obtain⟨q1,q2,q3,q4⟩:=FB (a:=gs) (i:=0) (j:=j) (x:=Conc.served (S.x j).g undef) (y:=S.mn.g.finishComm P #[rcase G.co z1,rcase G.cd z2] .select (0:Nat) (S.x j).vm true) k3 cB ZV;have au:=h.Cs.lt
   obtain⟨S',r1,r2⟩:=h.Ii (w':=(w.at d).setChan G.co 0 #[] false (so+1) (so+1) tmo) e1 e2 (.inr e3) x1 x2 x3 x4 hn To Cx (Env.refl _ _) l1 (λr hr=>iQ (w.at d) hr) ⟨dO ..,rfl,rfl⟩ (ie au) q1 q2 q3 q4
    (by rw[dO];exact Vv.Tq au j (S.x j).g.frame.fn (S.x j).g.frame.place 0 S.mn.g.frame.fn S.mn.g.frame.place so)
   refine⟨S',_,_,_,_,bh,r1,?_⟩;rw[<-zEW,finishComm_send,f4,f1];exact r2
  .obtain⟨f1,f2,f3,f4⟩:=same e;simp only[zDC,zCQ,scase,CommCase.mk.injEq,Value.chan.injEq,zAB,zER]at f2;obtain⟨rfl,rfl,rfl⟩:=f2;subst f3
   have Jv:m=1:=by
    rcases zW m _ k1 with⟨_,hz⟩|⟨e0,_⟩
    .simp only[rcase,CommCase.mk.injEq,Value.chan.injEq,zAB]at hz;exact absurd hz.1.symm G.ne
    .exact e0
   subst Jv;have JO:=(h.wk j e1 e2).2;rw[e3]at JO;obtain⟨x1,v2,zw,q,x2,x3⟩:=JO;rw[Vu]at k2;simp only[zAB,Obj.chan.injEq,zCS]at k2;obtain⟨rfl,rfl,rfl⟩:=k2;obtain⟨q1,q2,q3,q4⟩:=FB (a:=gs) (i:=0) (j:=j) (x:=Conc.served (S.x j).g undef) (y:=S.mn.g.finishComm P #[rcase G.co z1,rcase G.cd z2] .select (1:Nat) vj true) k3 cB ZV;have au:=h.Ct.lt
   obtain⟨S',r1,r2⟩:=h.Cy (w':=(w.at d).setChan G.cd 0 #[] false (sd+1) (sd+1) tmd) (v:=vj) e1 e2 (by rw[e3];simp) x1 x3 hn To Cx (Env.refl _ _) l1 (λr hr=>iQ (w.at d) hr) ⟨dO ..,rfl,rfl⟩ (ie au) q1 q2 q3 q4
    (by rw[dO];exact Vv.Tt au j (S.x j).g.frame.fn (S.x j).g.frame.place S.mn.g.frame.fn S.mn.g.frame.place sd)
   refine⟨S',_,_,_,_,bh,r1,?_⟩;rw[<-zEW,finishComm_send,f4,f1];exact r2
end
section
variable {P:un} {G:jK P} {b:Nat} {S S':St} {gs fT:Array Goroutine} {w w':nq} {t t':Trace} {sl:Option (Nat × Nat)}
def Inv.nT (h:Inv G b S gs w t):S.n<=G.T:=by
 rw[<-h.cnt];have:=sumTo_le (f:=λj=>if S.dG (b+j)=.left then 1 else 0) (c:=1) (j:=G.T) λi _=>by split<;>omega
 omega
def Inv.ZW (h:Inv G b S gs w t):∃(i:Nat) (g:Goroutine),gs[i]?=some g/\g.status=.running:=by
 obtain⟨m1,m2,m3,m4⟩:=h.main;cases hm:S.mp with
 |false=>rw[hm]at m4;exact⟨0,_,m4.1,m4.2.1⟩
 |true=>
  rw[hm]at m4;obtain⟨k1,k2,_,k3⟩:=m4
  have:∃j,j<G.T/\S.dG (b+j)≠ .left:=by
   refine zBF λhn=>?_;have:sumTo G.T (λj=>if S.dG (b+j)=.left then 1 else 0)=G.T:=vD λj hj=>zAE (zBF λhs=>hn ⟨j,hj,hs⟩);rw[h.cnt]at this;omega
  obtain⟨j,hj,hs⟩:=this;obtain⟨n1,n2⟩:=k3 (b+j) (by omega) (by omega);have hw:=(h.wk (b+j) (by omega) (by omega)).2;cases cD:S.dG (b+j)with
  |run=>rw[cD]at hw;exact⟨_,_,hw.1,hw.2⟩
  |po=>exact absurd cD n1
  |pd=>exact absurd cD n2
  |left=>exact absurd cD hs
def mS (G:jK P) (S:St) (w:nq):Prop:=S.k=G.T/\S.n=G.T/\S.mp=false/\G.Out S.M S.mn.kn S.mn.own S.mn.g w
def Inv.zeR (h:Inv G b S gs w t) (hi:gs[i]?=some g) (hr:g.status=.running):mS G S w\/qR G b S gs w sl t i:=by
 have au:i<b+S.k:=by rw[<-h.size];exact(zAC.1 hi).1
 rcases zCB i with rfl|gC
 .obtain⟨m1,m2,m3,m4⟩:=h.main;cases hm:S.mp with
  |true=>
   rw[hm]at m4;obtain⟨_,_,⟨_,_,_,_,_,_,_,k⟩,_⟩:=m4;rw[hi]at k;rw[zAW k]at hr;cases hr
  |false=>
   rw[hm]at m4;obtain⟨c1,c2,c3,c4⟩:=m4
   have MI:S.mn.At S.mn.kn S.mn.own S.mn.g w->mS G S w\/qR G b S gs w sl t 0:=by
    intro xf;rw[c4]at xf;unfold St.At at xf;by_cases hk:S.k<G.T
    .rw[zAE hk]at xf;exact .inr (h.JP hm hk xf)
    .rw[zAG hk]at xf;have To:S.k=G.T:=by have:=h.kT;omega
     by_cases hn:S.n<G.T
     .rw[zAE hn]at xf;exact .inr (h.FE hm To hn xf)
     .rw[zAG hn]at xf;exact .inl ⟨To,by have:=h.nT;omega,hm,xf⟩
   by_cases hA:S.mn.At S.mn.kn S.mn.own S.mn.g w
   .exact MI hA
   .have c3':=c3;cases c3' with
    |mk ok go=>
     rcases ok w m3 with hA|⟨g2,w3,es,h1,h2,h3⟩
     .exact MI hA
     .exact .inr (h.Vo hm hA h1 h2 h3)
 .rcases zDA i b with Ij|Ij
  .exact .inr (h.quit hi hr gC (.inl Ij))
  .have hw:=(h.wk i Ij au).2;cases cD:S.dG i with
   |run=>exact .inr (h.FC Ij au cD)
   |left=>exact .inr (h.quit hi hr gC (.inr ⟨Ij,cD⟩))
   |po=>
    rw[cD]at hw;obtain⟨_,_,_,_,_,_,_,k⟩:=hw;rw[hi]at k;rw[zAW k]at hr;cases hr
   |pd=>
    rw[cD]at hw;obtain⟨_,_,_,_,k,_⟩:=hw;rw[hi]at k;rw[zAW k]at hr;cases hr
def Inv.step (h:Inv G b S gs w t):mS G S w\/∃S' fT w' iW ops,stepT P (crowd gs w sl)=(.next (crowd fT w' iW),ops)/\Mu.lt P G.co G.cd (b+G.T) (S'.mu G b) (S.mu G b)/\Inv G b S' fT w' (t++ops):=by
 obtain⟨i,g,d,iW,hi,hg,cD⟩:=crowd_pick (P:=P) (w:=w) (sl:=sl) h.awake h.ZW;rcases(h.at d).zeR (sl:=iW) hi hg with⟨h1,h2,h3,h4⟩|⟨S',fT,w',Qq,ops,h1,h2,h3⟩
 .exact .inl ⟨h1,h2,h3,G.MD _ _ _ _ _ _ h4⟩
 .exact .inr ⟨S',fT,w',Qq,ops,cD.trans h1,h2,h3⟩
def Inv.toEnd (h:Inv G b S gs w t):∃N S' fT w' iW t',runNT P N (crowd gs w sl) t=(.next (crowd fT w' iW),t')/\Inv G b S' fT w' t'/\mS G S' w':=by
 have key:∀μ:Mu,∀(S:St) (gs:Array Goroutine) (w:nq) (t:Trace) (sl:Option (Nat×Nat)),S.mu G b=μ->Inv G b S gs w t->∃N S' fT w' iW t',runNT P N (crowd gs w sl) t=(.next (crowd fT w' iW),t')/\Inv G b S' fT w' t'/\mS G S' w':=by
  intro μ;induction((Mu.wf P G.co G.cd (b+G.T)).apply μ)with
  |intro μ _ ih=>
   intro S gs w t sl hμ h;rcases h.step (sl:=sl)with ho|⟨S',fT,w',iW,ops,h1,h2,h3⟩
   .exact⟨0,S,gs,w,sl,t,rfl,h,ho⟩
   .obtain⟨N,S2,Tk,w2,Qq,t2,k1,k2,k3⟩:=ih _ (hμ▸h2) S' fT w' (t++ops) iW rfl h3;exact⟨N+1,S2,Tk,w2,Qq,t2,by simp only[runNT,h1];exact k1,k2,k3⟩
 exact key _ S gs w t sl rfl h
def Inv.ZX (h:Inv G b S gs w t) (ho:mS G S w):gs[0]?=some S.mn.g/\S.mn.g.status=.running/\(∀i g,0<i->gs[i]?=some g->QuitsIn P (S.q i) g)/\Co (λg=>g=0) (λ_=>S.mn.kn) (λ_=>S.mn.own) w.heap.size t/\∀m,m<G.T->S.M m=G.E m:=by
 obtain⟨k1,k2,k3,k4⟩:=ho;obtain⟨m1,m2,m3,m4⟩:=h.main;rw[k3]at m4;have hb:=h.b1
 have all:∀j,j<G.T->S.dG (b+j)=.left:=by
  intro j hj;refine zBF λhn=>?_;have e:=sumTo_upd (λa=>S.dG (b+a)) qQ.left (λs=>if s=qQ.left then 1 else 0) hj;rw[h.cnt,k2]at e;simp only[zAG hn,zAE]at e;have le:=sumTo_le (f:=λa=>if upd (λa=>S.dG (b+a)) j qQ.left a=qQ.left then 1 else 0) (c:=1) (j:=G.T) λi _=>by split<;>omega
  omega
 have lf:∀i,b<=i->i<b+S.k->S.dG i=.left:=λi h1 h2=>by
  have:=all (i-b) (by omega);rwa [show b+(i-b)=i by omega]at this
 refine⟨m4.1,m4.2.1,λi g hi hg=>?_,?_,λm hm=>?_⟩
 .rcases zDA i b with Ij|Ij
  .exact h.old i g hi Ij hg
  .have au:i<b+S.k:=by rw[<-h.size];exact(zAC.1 hg).1
   have hw:=(h.wk i Ij au).2;rw[lf i Ij au]at hw;obtain⟨_,g',h1,h2⟩:=hw;rw[hg]at h1;exact zAW h1▸h2
 .have e:∀g,S.act b g↔g=0:=λg=>by
   constructor
   .rintro(e|⟨e1,e2,e3⟩)
    .exact e
    .exact absurd (lf g e1 e2) e3
   .exact .inl
  have hc:=h.co.si (A':=λg=>g=0) λg=>(e g).symm;refine hc.shrink (λg hg r hr=>?_) (λg hg r hr=>?_) λg hg r hr=>?_
  .rw[hg,m1];exact hr
  .rw[hg,m2];exact hr
  .have:=hc.sub 0 rfl r (by rw[m2];exact hr);rwa [m1]at this
 .have hw:=(h.wk (b+m) (by omega) (by omega)).2;rw[all m hm]at hw;have:=h.marks m;rw[hw.1]at this;cases hE:G.E m with
  |true=>exact this.2 ⟨by omega,hE,rfl⟩
  |false=>
   cases hM:S.M m with
   |false=>rfl
   |true=>have:=(this.1 hM).2.1;rw[hE]at this;cases this
def Inv.begin (G:jK P) {kn own:Nat->Prop} {g:Goroutine} {q:Nat->Nat} (hg:gs[0]?=some g) (hr:g.status=.running) (hq:∀i x,0<i->gs[i]?=some x->QuitsIn P (q i) x)
 (nD:Co (λg=>g=0) (λ_=>kn) (λ_=>own) w.heap.size t) (ho:isChan w G.co) (hd:isChan w G.cd) (je:¬kn G.co) (JF:¬kn G.cd) (hs:kY P (G.Fz 0) kn own g w):
 Inv G gs.size {k:=0,n:=0,M:=λ_=>false,kn:=λ_=>kn,own:=λ_=>own,dG:=λ_=>.run,x:=λ_=>⟨default,true,kn,own,g,w⟩,q:=q,mp:=false,mn:=⟨G.Fz 0,kn,own,g,w⟩} gs w t:=by
 have cB:0<gs.size:=(zAC.1 hg).1;refine⟨cB,rfl,zAJ _,?_,ho,hd,λi _=>⟨je,JF⟩,λi x hi _ hx=>hq i x hi hx,λi h1 h2=>?_,?_,?_,λ_ _=>rfl,λm=>?_,λ_=>⟨rfl,λ_=>rfl⟩⟩
 .refine nD.si λg=>?_;show(g=0\/(gs.size<=g/\g<gs.size+0/\_))↔g=0;constructor
  .rintro(e|⟨e1,e2,_⟩)
   .exact e
   .omega
  .exact .inl
 .exfalso;have h2:i<gs.size+0:=h2;omega
 .refine⟨rfl,rfl,Env.refl _ _,hg,hr,hs,?_⟩;show G.Fz 0=if 0<G.T then G.Fz 0 else _
  rw[zAE G.pos]
 .show sumTo G.T (λj=>if qQ.run=qQ.left then 1 else 0)=0;have:=sumTo_le (f:=λ_=>if qQ.run=qQ.left then 1 else 0) (c:=0) (j:=G.T) λi _=>by simp
  simpa using this
 .show false=true↔(m<0/\_)
  simp
end
end Go.aD
