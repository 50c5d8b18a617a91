/- A part. Conditions: none. -/
import Derived.Test.YtddlcmejelobdaaGreatDoorT03
import Derived.Conc.CrowdSel
import Derived.Conc.Script
set_option linter.all false
namespace Go.aC
open Go.Conc
variable {kn own:Nat->Prop} {w2:nq} {α:Type}
abbrev oL:=(Nat->Prop)->(Nat->Prop)->Goroutine->nq->Prop
inductive WT (P:un) (co cd:Nat) (vm:fu):Bool->oL
 |mk {s:Bool} {kn own:Nat->Prop} {g:Goroutine} {w:nq}
   (ok:∀w2,Env kn w w2->
     (∃g2 w3 es,stepG P false g w2=.go g2 w3 es/\g2.status=.running/\Fair kn own w2 w3 es)\/
     (∃z es,s=true/\stepG P false g w2=.comm g #[scase co vm z] true .send w2 es/\∀e∈es,Hf kn own e)\/
     (∃v z es q,s=false/\stepG P false g w2=.comm g #[scase cd v z] true .send w2 es/\(∀e∈es,Hf kn own e)/\QuitsIn P q (Conc.served g undef)))
   (go:∀w2 g2 w3 es,Env kn w w2->stepG P false g w2=.go g2 w3 es->WT P co cd vm s (aN kn w2 w3) (aN own w2 w3) g2 w3)
   (U0:∀w2 z es,Env kn w w2->stepG P false g w2=.comm g #[scase co vm z] true .send w2 es->WT P co cd vm false kn own (Conc.served g undef) w2):WT P co cd vm s kn own g w
structure kD where
 vm:fu
 s:Bool
 kn:Nat->Prop
 own:Nat->Prop
 g:Goroutine
 w:nq
def kD.ok (P:un) (co cd:Nat) (x:kD):Prop:=WT P co cd x.vm x.s x.kn x.own x.g x.w
def kD.kid (P:un) (co:Nat) (y x:kD):Prop:=
 y.vm=x.vm/\∃w2,Env x.kn x.w w2/\
  ((∃es,stepG P false x.g w2=.go y.g y.w es/\y.kn=aN x.kn w2 y.w/\y.own=aN x.own w2 y.w/\y.s=x.s)\/
   (∃z es,stepG P false x.g w2=.comm x.g #[scase co x.vm z] true .send w2 es/\y.g=Conc.served x.g undef/\y.w=w2/\y.kn=x.kn/\y.own=x.own/\y.s=false))
def kD.lt (P:un) (co cd:Nat) (y x:kD):Prop:=x.ok P co cd/\y.kid P co x
def kD.wf (P:un) (co cd:Nat):WellFounded (kD.lt P co cd):=by
 refine⟨λx=>?_⟩;by_cases h:x.ok P co cd
 .obtain⟨vm,s,kn,own,g,w⟩:=x;change WT P co cd vm s kn own g w at h;induction h with
  |mk ok go U0 ih1 ih2=>
   refine⟨_,λy hy=>?_⟩;obtain⟨_,e,w2,he,⟨es,h1,h2,h3,h4⟩|⟨z,es,h1,h2,h3,h4,h5,h6⟩⟩:=hy
   .obtain⟨yv,ys,yk,yo,yg,yw⟩:=y;simp only at e h1 h2 h3 h4 he;subst e;subst h2;subst h3;subst h4;exact ih1 w2 yg yw es he h1
   .obtain⟨yv,ys,yk,yo,yg,yw⟩:=y;simp only at e h1 h2 h3 h4 h5 h6 he;subst e;subst h2;subst h3;subst h4;subst h5;subst h6;exact ih2 yw z es he h1
 .exact⟨_,λy hy=>absurd hy.1 h⟩
def WT.env {P:un} {co cd:Nat} {vm:fu} {s:Bool} {g:Goroutine} {w:nq} (h:WT P co cd vm s kn own g w) (he:Env kn w w2):WT P co cd vm s kn own g w2:=by
 cases h with
 |mk ok go U0=>exact .mk (λw3 h3=>ok w3 (he.trans h3)) (λw3 g2 w4 es h3=>go w3 g2 w4 es (he.trans h3)) (λw3 z es h3=>U0 w3 z es (he.trans h3))
inductive jK (P:un) (At:oL):oL
 |mk {kn own:Nat->Prop} {g:Goroutine} {w:nq}
   (ok:∀w2,Env kn w w2->At kn own g w2\/∃g2 w3 es,stepG P true g w2=.go g2 w3 es/\g2.status=.running/\Fair kn own w2 w3 es)
   (go:∀w2 g2 w3 es,Env kn w w2->¬At kn own g w2->stepG P true g w2=.go g2 w3 es->jK P At (aN kn w2 w3) (aN own w2 w3) g2 w3):jK P At kn own g w
structure mL where
 At:oL
 kn:Nat->Prop
 own:Nat->Prop
 g:Goroutine
 w:nq
def mL.ok (P:un) (x:mL):Prop:=jK P x.At x.kn x.own x.g x.w
def mL.lt (P:un) (y x:mL):Prop:=
 x.ok P/\y.At=x.At/\∃w2 es,Env x.kn x.w w2/\¬x.At x.kn x.own x.g w2/\stepG P true x.g w2=.go y.g y.w es/\y.kn=aN x.kn w2 y.w/\y.own=aN x.own w2 y.w
def mL.wf (P:un):WellFounded (mL.lt P):=by
 refine⟨λx=>?_⟩;by_cases h:x.ok P
 .obtain⟨At,kn,own,g,w⟩:=x;change jK P At kn own g w at h;induction h with
  |mk ok go ih=>
   refine⟨_,λy hy=>?_⟩;obtain⟨_,e,w2,es,he,hn,h1,h2,h3⟩:=hy;obtain⟨yA,yk,yo,yg,yw⟩:=y;simp only at e h1 h2 h3 he hn;subst e;subst h2;subst h3;exact ih w2 yg yw es he hn h1
 .exact⟨_,λy hy=>absurd hy.1 h⟩
def jK.env {P:un} {At:oL} {g:Goroutine} {w:nq} (h:jK P At kn own g w) (he:Env kn w w2):jK P At kn own g w2:=by
 cases h with
 |mk ok go=>exact .mk (λw3 h3=>ok w3 (he.trans h3)) (λw3 g2 w4 es h3=>go w3 g2 w4 es (he.trans h3))
def jK.here {P:un} {At:oL} {g:Goroutine} {w:nq} (h:∀w2,Env kn w w2->At kn own g w2):jK P At kn own g w:=
 .mk (λw2 he=>.inl (h w2 he)) λw2 _ _ _ he hn=>absurd (h w2 he) hn
def RV (R:α->α->Prop) (n:Nat) (v' v:Nat->α):Prop:=∃i,i<n/\R (v' i) (v i)/\∀j,j≠i->v' j=v j
def RV.wf {R:α->α->Prop} (h:WellFounded R):∀n,WellFounded (RV R n):=by
 intro n;induction n with
 |zero=>exact⟨λv=>⟨_,λv' ⟨i,hi,_⟩=>absurd hi (zEG i)⟩⟩
 |succ n ih=>
  have key:∀x,∀v:Nat->α,v n=x->Acc (RV R (n+1)) v:=by
   intro x;induction(h.apply x)with
   |intro x _ YI=>
    intro v;induction(ih.apply v)with
    |intro v _ ihv=>
     intro hv;refine⟨_,λv' qY=>?_⟩;obtain⟨i,hi,h1,h2⟩:=qY;by_cases e:i=n
     .subst e;exact YI (v' i) (hv▸h1) v' rfl
     .exact ihv v' ⟨i,by omega,h1,h2⟩ ((h2 n (Ne.symm e)).trans hv)
  exact⟨λv=>key _ v rfl⟩
abbrev Mu:=Nat×((Nat->kD×Nat)×((mL×Nat)×Nat))
def Mu.lt (P:un) (co cd n:Nat):Mu->Mu->Prop:=
 Prod.Lex (·<·) (Prod.Lex (RV (Prod.Lex (kD.lt P co cd) (·<·)) n) (Prod.Lex (Prod.Lex (mL.lt P) (·<·)) (·<·)))
def uC {β:Type} {r:α->α->Prop} {s:β->β->Prop} (hr:WellFounded r) (hs:WellFounded s):WellFounded (Prod.Lex r s):=⟨λx=>Prod.lexAccessible (hr.apply x.1) (λb=>hs.apply b) x.2⟩
def zI:WellFounded (λa b:Nat=>a<b):=Nat.lt_wfRel.wf
def Mu.wf (P:un) (co cd n:Nat):WellFounded (Mu.lt P co cd n):=
 uC zI (uC (RV.wf (uC (kD.wf P co cd) zI) n) (uC (uC (mL.wf P) zI) zI))
def uD (P:un) (q:Question) (n:Nat) (hn:0<n) (hq:∀x,q.cut x<n) (f:Nat->Sem α) (w:nq):∃a d,a<n/\((choose q:Sem Nat)>>=f).run P w=(f a).run P (w.at d):=by
 by_cases hf:q.forced=true
 .exact⟨0,w.drawn,hn,by simp[choose,bind,Sem.bind,Sem.run,hf,World.at]⟩
 .exact⟨q.cut (w.tape w.drawn q),w.drawn+1,hq _,by simp[choose,bind,Sem.bind,Sem.run,hf,World.at]⟩
def LR (P:un) (ready:List (Nat×CommCase×List Way)) (bC:ready≠ []) (cg:∀x∈ready,x.2.2≠ []) (w:nq):
 ∃k c ws way d,(k,c,ws)∈ready/\way∈ws/\(do
  let a<-(choose (.select ready.length):Sem Nat)
  let(k,c,ws):=ready.getD a (0,default,[])
  let b<-choose (.extern "which waiting goroutine is the partner" ws.length)
  pure (k,c,ws.getD b .closed):Sem (Nat×CommCase×Way)).run P w=.ok (k,c,way) (w.at d):=by
 have hl:0<ready.length:=zDC.2 bC
 obtain⟨a,d,ha,e⟩:=uD P (.select ready.length) ready.length hl (λx=>by
  simp only[Question.cut]
  exact zGH _ hl) (λa=>do
   let(k,c,ws):=ready.getD a (0,default,[])
   let b<-choose (.extern "which waiting goroutine is the partner" ws.length)
   pure (k,c,ws.getD b .closed)) w
 obtain⟨⟨k,c,ws⟩,hx⟩:∃x,ready[a]?=some x:=⟨ready[a],zAJ ha⟩
 have hg:ready.getD a (0,default,[])=(k,c,ws):=by rw[List.getD_eq_getElem?_getD,hx];rfl
 have fe:=zBI hx;have hws:0<ws.length:=zDC.2 (cg _ fe)
 obtain⟨b,d2,hb,e2⟩:=uD P (.extern "which waiting goroutine is the partner" ws.length) ws.length hws (fun x=>by
  simp only[Question.cut];split
  .omega
  .exact zGH _ hws) (λb=>(pure (k,c,ws.getD b .closed):Sem (Nat×CommCase×Way))) (w.at d)
 refine⟨k,c,ws,ws[b],d2,fe,List.getElem_mem hb,?_⟩;rw[e];simp only[hg];rw[e2];simp only[pure,Sem.run,List.getD_eq_getElem?_getD,zAJ hb,zAC];rfl
section
variable {P:un} {gs:Array Goroutine} {w w₁:nq} {sl:Option (Nat × Nat)} {i:Nat} {g g₂:Goroutine} {es:Array Event} {cases:Array CommCase} {shape:CommShape} {blocking:Bool}
def xO {c:Nat} {z:fu} {s r:Nat} {tm:Bool} (hc:w₁.heap[c]?=some (.chan 0 #[] false s r tm)) (gs:Array Goroutine):
 ways w₁ gs (rcase c z)=(partners gs c true).map λ(h,k)=>.partner h k:=by
 simp only[ways,rcase,hc,Array.size_empty,Nat.lt_irrefl,zBJ];cases partners gs c true with
 |nil=>rfl
 |cons p ps=>rfl
def nU (hi:gs[i]?=some g) (h:stepG P (i==0) g w=.comm g₂ cases blocking shape w₁ es)
 (qS:∀(m:Nat) (cc:CommCase),cases[m]?=some cc->∃c z s r tm,cc=rcase c z/\w₁.heap[c]?=some (.chan 0 #[] false s r tm)/\
   ∀j k,(j,k)∈partners (gs.setIfInBounds i ph) c true->k=0/\j≠i/\∃gj vj zj LS,gs[j]?=some (parked gj #[scase c vj zj] LS))
 (bC:∃(m:Nat) (c:Nat) (z:fu),cases[m]?=some (rcase c z)/\partners (gs.setIfInBounds i ph) c true≠ []):
 ∃(m c:Nat) (z:fu) (s r:Nat) (tm:Bool) (j:Nat) (gj:Goroutine) (vj zj:fu) (LS:CommShape) (d:Nat),cases[m]?=some (rcase c z)/\w₁.heap[c]?=some (.chan 0 #[] false s r tm)/\j≠i/\gs[j]?=some (parked gj #[scase c vj zj] LS)/\
  runT P (crowd gs w sl) i=(.next (crowd ((gs.setIfInBounds j (gj.finishComm P #[scase c vj zj] LS 0 undef false)).setIfInBounds i (g₂.finishComm P cases shape m vj true)) ((w₁.at d).setChan c 0 #[] false (s+1) (r+1) tm) sl),
   MemOp.ofEvents i g.frame.fn g.frame.place es++#[{g:=j,fn:=gj.frame.fn,pos:=gj.frame.place,act:=.send c s},{g:=i,fn:=g₂.frame.fn,pos:=g₂.frame.place,act:=.recv c r 0},
    {g:=j,fn:=gj.frame.fn,pos:=gj.frame.place,act:=.sendDone c s},{g:=i,fn:=g₂.frame.fn,pos:=g₂.frame.place,act:=.recvDone c r}]):=by
 let ready:=(cases.zipIdx.toList.map λ(c,k)=>(k,c,ways w₁ (gs.setIfInBounds i ph) c)).filter λ(_,_,ws)=>!ws.isEmpty
 have fe:∀k c ws,(k,c,ws)∈ready->cases[k]?=some c/\ws=ways w₁ (gs.setIfInBounds i ph) c/\ws≠ []:=by
  intro k c ws hx;simp only[ready,zCG,zBO,Prod.exists,zAH]at hx;obtain⟨⟨c',k',hz,rfl,rfl,rfl⟩,hx⟩:=hx;exact⟨mem_of_zipIdx hz,rfl,λe=>by rw[e]at hx;simp at hx⟩
 have LT:ready≠ []:=by
  obtain⟨m,c,z,hm,hp⟩:=bC;obtain⟨c',z',s,r,tm,e,hc,_⟩:=qS m _ hm;simp only[rcase,CommCase.mk.injEq,Value.chan.injEq,zAA,zCK]at e;obtain⟨rfl,rfl⟩:=e
  have:(m,rcase c z,ways w₁ (gs.setIfInBounds i ph) (rcase c z))∈ready:=by
   simp only[ready,zCG,zBO,Prod.exists,zAH];refine⟨⟨rcase c z,m,?_,rfl,rfl,rfl⟩,?_⟩
   .rw[Array.mem_toList_iff,Array.mem_zipIdx_iff_getElem?];exact hm
   .rw[xO hc];cases hpp:partners (gs.setIfInBounds i ph) c true with
    |nil=>exact absurd hpp hp
    |cons p ps=>rfl
  intro e;rw[e]at this;cases this
 have zdK:cases.any (illMade w₁)=false:=any_ill λcc wI=>by
  obtain⟨m,hm,rfl⟩:=zCI.1 wI;obtain⟨c,z,s,r,tm,e,hc,_⟩:=qS m _ (zAI hm);rw[e];exact made_recv z hc
 obtain⟨k,cc,ws,way,d,h1,h2,h3⟩:=LR P ready LT (λx hx=>(fe x.1 x.2.1 x.2.2 hx).2.2) w₁;obtain⟨hk,rfl,_⟩:=fe _ _ _ h1;obtain⟨c,z,s,r,tm,rfl,hc,xP⟩:=qS k cc hk;rw[xO hc]at h2;obtain⟨⟨j,k0⟩,hj,rfl⟩:=zBO.1 h2;obtain⟨rfl,rZ,gj,vj,zj,LS,hgj⟩:=xP j k0 hj;refine⟨k,c,z,s,r,tm,j,gj,vj,zj,LS,d,hk,hc,rZ,hgj,?_⟩;have Bl:=stand_get (i:=i) rZ hgj;have hfp:=finishPartner_at P (gs.setIfInBounds i ph) Bl (cs:=#[scase c vj zj]) (sh:=LS) rfl 0 undef;have S3:(gs.setIfInBounds i ph).getD j default=parked gj #[scase c vj zj] LS:=by rw[zAX,Bl];rfl
 have hov:offeredValue (gs.setIfInBounds i ph) j 0=vj:=by simp[offeredValue,Bl,parked,scase]
 have Hh:ready.isEmpty=false:=by
  cases hr:ready with
  |nil=>exact absurd hr LT
  |cons x xs=>rfl
 rw[runT_crowd_comm hi h];unfold communicate;rw[zAG]
 .dsimp only;split
  .rename_i he;exact absurd (show ready.isEmpty=true from he) (by rw[Hh];exact Bool.false_ne_true)
  .split
   .rename_i heq;have e:=heq.symm.trans h3;cases e
   .rename_i k' c' zkW w' heq;have e:=heq.symm.trans h3;simp only[Result.ok.injEq,zAH]at e;obtain⟨⟨rfl,rfl,rfl⟩,rfl⟩:=e;have hc':(w₁.at d).heap[c]?=some (.chan 0 #[] false s r tm):=hc;simp[rcase,hc',crowd,hfp,S3,hov,set_stand2,finishComm_parked,scase,parked,World.setChan];rfl
 .rw[zES];exact zdK
end
end Go.aC
namespace Go.aC
open Go.Conc
open Go.ConcN (upd upd_same upd_ne sumTo sumTo_upd sumTo_congr le_sumTo)
variable {A:Nat->Prop} {es:Array Event} {g2 x:Goroutine} {i j:Nat} {kn own:Nat->Nat->Prop} {w1 w3:nq} {α:Type}
structure jm (P:un)where
 T:Nat
 co:Nat
 cd:Nat
 E:Nat->Bool
 vm:Nat->fu
 EX:Nat->oL
 Bm:Nat->(Nat->Bool)->oL
 Out:(Nat->Bool)->oL
 ne:co≠cd
 pos:0<T
 spw:∀k kn own g w,k<T->EX k kn own g w->∃g2 child es K k0 o0,stepG P true g w=.spawn g2 child w es/\(∀e∈es,Hf kn own e)/\g2.status=.running/\child.status=.running/\
  (∀r,K r->kn r)/\(∀r,k0 r->kn r)/\(∀r,o0 r->own r)/\(∀r,o0 r->k0 r)/\(∀r,o0 r->¬K r)/\WT P co cd (vm k) (E k) K (λ_=>False) child w/\
  jK P (if k+1<T then EX (k+1)else Bm 0 λ_=>false) k0 o0 g2 w
 sel:∀n M kn own g w,n<T->Bm n M kn own g w->∃es z z',stepG P true g w=.comm g #[rcase co z,rcase cd z'] true .select w es/\(∀e∈es,Hf kn own e)/\
  (∀w2 m,Env kn w w2->m<T->E m=true->jK P (Bm n λa=>if a=m then true else M a) kn own (g.finishComm P #[rcase co z,rcase cd z'] .select (0:Nat) (vm m) true) w2)/\
  (∀w2 v,Env kn w w2->(n+1=T->∀m,m<T->M m=E m)->jK P (if n+1<T then Bm (n+1) M else Out M) kn own (g.finishComm P #[rcase co z,rcase cd z'] .select (1:Nat) v true) w2)
 LU:∀M kn own g w d,Out M kn own g (World.at w d)->Out M kn own g w
inductive pU
 |run|po|pd|left
 deriving DecidableEq
structure St where
 k:Nat
 n:Nat
 M:Nat->Bool
 kn:Nat->Nat->Prop
 own:Nat->Nat->Prop
 dh:Nat->pU
 x:Nat->kD
 q:Nat->Nat
 mp:Bool
 mn:mL
section
variable {P:un} (G:jm P) (b:Nat)
def St.act (S:St) (i:Nat):Prop:=i=0\/(b<=i/\i<b+S.k/\S.dh i≠ .left)
def St.At (S:St):oL:=if S.k<G.T then G.EX S.k else if S.n<G.T then G.Bm S.n S.M else G.Out S.M
def St.Wk (S:St) (gs:Array Goroutine) (w:nq) (i:Nat):Prop:=
 (S.dh i≠ .left->(S.x i).ok P G.co G.cd/\(S.x i).vm=G.vm (i-b)/\((S.x i).s=true->G.E (i-b)=true)/\S.kn i=(S.x i).kn/\S.own i=(S.x i).own/\Env (S.x i).kn (S.x i).w w/\S.q i=0)/\
 match S.dh i with
 |.run=>gs[i]?=some (S.x i).g/\(S.x i).g.status=.running
 |.po=>(S.x i).s=true/\∃w1 z es,Env (S.x i).kn (S.x i).w w1/\Env (S.x i).kn w1 w/\stepG P false (S.x i).g w1=.comm (S.x i).g #[scase G.co (S.x i).vm z] true .send w1 es/\
    gs[i]?=some (parked (S.x i).g #[scase G.co (S.x i).vm z] .send)
 |.pd=>(S.x i).s=false/\∃v z q,gs[i]?=some (parked (S.x i).g #[scase G.cd v z] .send)/\QuitsIn P q (Conc.served (S.x i).g undef)
 |.left=>(S.x i).s=false/\∃g,gs[i]?=some g/\QuitsIn P (S.q i) g
def St.Mn (S:St) (gs:Array Goroutine) (w:nq):Prop:=
 S.kn 0=S.mn.kn/\S.own 0=S.mn.own/\Env S.mn.kn S.mn.w w/\
 match S.mp with
 |true=>S.k=G.T/\S.n<G.T/\(∃w1 z z' es,G.Bm S.n S.M S.mn.kn S.mn.own S.mn.g w1/\Env S.mn.kn w1 w/\stepG P true S.mn.g w1=.comm S.mn.g #[rcase G.co z,rcase G.cd z'] true .select w1 es/\
   gs[0]?=some (parked S.mn.g #[rcase G.co z,rcase G.cd z'] .select))/\∀i,b<=i->i<b+S.k->S.dh i≠ .po/\S.dh i≠ .pd
 |false=>gs[0]?=some S.mn.g/\S.mn.g.status=.running/\S.mn.ok P/\S.mn.At=S.At G
def isChan (w:nq) (c:Nat):Prop:=∃s tm,w.heap[c]?=some (.chan 0 #[] false s s tm)
structure Inv (S:St) (gs:Array Goroutine) (w:nq) (t:Trace):Prop where
 b1:0<b
 size:gs.size=b+S.k
 kT:S.k<=G.T
 co:Co (S.act b) S.kn S.own w.heap.size t
 B6:isChan w G.co
 B7:isChan w G.cd
 Jq:∀i,S.act b i->¬S.kn i G.co/\¬S.kn i G.cd
 old:∀i g,0<i->i<b->gs[i]?=some g->QuitsIn P (S.q i) g
 wk:∀i,b<=i->i<b+S.k->S.Wk G b gs w i
 main:S.Mn G b gs w
 cnt:sumTo G.T (λj=>if S.dh (b+j)=.left then 1 else 0)=S.n
 LV:∀i,b+S.k<=i->S.dh i=.run
 marks:∀m,S.M m=true↔(m<S.k/\G.E m=true/\(S.x (b+m)).s=false)
 early:S.k<G.T->S.n=0/\∀m,S.M m=false
def St.mu (S:St):Mu:=
 (2*(G.T-S.k)+(S.k-S.n),(λi=>(S.x i,if S.dh i=.run then 1 else 0)),((S.mn,if S.mp then 0 else 1),sumTo (b+G.T) S.q))
end
def isChan.lt {w:nq} {c:Nat} (h:isChan w c):c<w.heap.size:=by obtain⟨s,tm,h⟩:=h;exact(zAD.1 h).1
def jn (kn:Nat->Prop) (w:nq) (d:Nat):Env kn w (w.at d):=⟨zAB _,λ_ _=>rfl,rfl,rfl⟩
section
variable {P:un} {G:jm P} {b:Nat} {S:St} {gs:Array Goroutine} {w:nq} {t:Trace}
def Inv.at (h:Inv G b S gs w t) (d:Nat):Inv G b S gs (w.at d) t where
 b1:=h.b1
 size:=h.size
 kT:=h.kT
 co:=h.co
 B6:=h.B6
 B7:=h.B7
 Jq:=h.Jq
 old:=h.old
 cnt:=h.cnt
 LV:=h.LV
 marks:=h.marks
 early:=h.early
 wk:=λi h1 h2=>by
   have hw:=h.wk i h1 h2;refine⟨λhn=>?_,?_⟩
   .obtain⟨a1,a2,a3,a4,a5,a6,a7⟩:=hw.1 hn;exact⟨a1,a2,a3,a4,a5,a6.trans (jn _ _ _),a7⟩
   .have h2:=hw.2;cases hs:S.dh i with
    |run=>rw[hs]at h2;exact h2
    |po=>
     rw[hs]at h2;obtain⟨c1,w1,z,es,c2,c3,c4,c5⟩:=h2;exact⟨c1,w1,z,es,c2,c3.trans (jn _ _ _),c4,c5⟩
    |pd=>rw[hs]at h2;exact h2
    |left=>rw[hs]at h2;exact h2
 main:=by
  obtain⟨a1,a2,a3,a4⟩:=h.main;refine⟨a1,a2,a3.trans (jn _ _ _),?_⟩;cases hm:S.mp with
  |true=>
   rw[hm]at a4;obtain⟨b1,b2,⟨w1,z,z',es,c1,c2,c3,c4⟩,b3⟩:=a4;exact⟨b1,b2,⟨w1,z,z',es,c1,c2.trans (jn _ _ _),c3,c4⟩,b3⟩
  |false=>rw[hm]at a4;exact a4
def Inv.zJ (h:Inv G b S gs w t) (hi:S.act b i) (hf:Fair (S.kn i) (S.own i) w w1 es) (hj:S.act b j) (bC:j≠i):Env (S.kn j) w w1:=
 ⟨hf.size,λr hr=>hf.others r (h.co.bound j hj r hr) λho=>h.co.dj i j hi hj (Ne.symm bC) r ho hr,hf.os,hf.out⟩
def Inv.B8 (h:Inv G b S gs w t) (hi:S.act b i) (hf:Fair (S.kn i) (S.own i) w w1 es):isChan w1 G.co/\isChan w1 G.cd:=by
 obtain⟨n1,n2⟩:=h.Jq i hi;obtain⟨s,tm,h1⟩:=h.B6;obtain⟨s',bR,h2⟩:=h.B7;exact⟨⟨s,tm,(hf.others _ h.B6.lt λx=>n1 (h.co.sub i hi _ x)).trans h1⟩,⟨s',bR,(hf.others _ h.B7.lt λx=>n2 (h.co.sub i hi _ x)).trans h2⟩⟩
def St.Wk.other {S S':St} {gs fH:Array Goroutine} {w w':nq} (h:S.Wk G b gs w j) (e1:S'.dh j=S.dh j) (e2:S'.x j=S.x j) (e3:S'.q j=S.q j) (e4:S'.kn j=S.kn j) (e5:S'.own j=S.own j)
 (e6:fH[j]?=gs[j]?) (he:S.dh j≠ .left->Env (S.kn j) w w'):S'.Wk G b fH w' j:=by
 refine⟨λhn=>?_,?_⟩
 .rw[e1]at hn;obtain⟨a1,a2,a3,a4,a5,a6,a7⟩:=h.1 hn;rw[e2,e3,e4,e5];exact⟨a1,a2,a3,a4,a5,a6.trans (a4▸he hn),a7⟩
 .have h2:=h.2;rw[e1,e2,e3,e6];cases hs:S.dh j with
  |run=>rw[hs]at h2;exact h2
  |po=>
   rw[hs]at h2;obtain⟨c1,w1,z,es,c2,c3,c4,c5⟩:=h2;have hn:S.dh j≠ .left:=by rw[hs];simp
   exact⟨c1,w1,z,es,c2,c3.trans ((h.1 hn).2.2.2.1▸he hn),c4,c5⟩
  |pd=>rw[hs]at h2;exact h2
  |left=>rw[hs]at h2;exact h2
def Inv.kinds (h:Inv G b S gs w t) (hj:gs[j]?=some x):
 ((x.status=.running\/x.status=.finished)/\¬(j=0/\S.mp=true))\/(j=0/\S.mp=true/\∃z z',x=parked S.mn.g #[rcase G.co z,rcase G.cd z'] .select)\/
 (b<=j/\j<b+S.k/\S.dh j=.po/\∃z,x=parked (S.x j).g #[scase G.co (S.x j).vm z] .send)\/(b<=j/\j<b+S.k/\S.dh j=.pd/\∃v z,x=parked (S.x j).g #[scase G.cd v z] .send):=by
 have av:j<b+S.k:=by rw[<-h.size];exact(zAD.1 hj).1
 have hb:=h.b1;rcases zBY j with rfl|gU
 .obtain⟨_,_,_,a4⟩:=h.main;cases hm:S.mp with
  |true=>
   rw[hm]at a4;obtain⟨_,_,⟨w1,z,z',es,_,_,_,c4⟩,_⟩:=a4;rw[hj]at c4;exact .inr (.inl ⟨rfl,rfl,z,z',zAV c4⟩)
  |false=>
   rw[hm]at a4;rw[hj]at a4;exact .inl ⟨.inl (zAV a4.1▸a4.2.1),by simp⟩
 .rcases zCX j b with zo|zo
  .exact .inl ⟨(h.old j x gU zo hj).status,λe=>by omega⟩
  .have hw:=(h.wk j zo av).2;cases hs:S.dh j with
   |run=>rw[hs]at hw;rw[hj]at hw;exact .inl ⟨.inl (zAV hw.1▸hw.2),λe=>by omega⟩
   |po=>
    rw[hs]at hw;obtain⟨_,w1,z,es,_,_,_,c5⟩:=hw;rw[hj]at c5;exact .inr (.inr (.inl ⟨zo,av,rfl,z,zAV c5⟩))
   |pd=>
    rw[hs]at hw;obtain⟨_,v,z,q,c5,_⟩:=hw;rw[hj]at c5;exact .inr (.inr (.inr ⟨zo,av,rfl,v,z,zAV c5⟩))
   |left=>
    rw[hs]at hw;obtain⟨_,g,c1,c2⟩:=hw;rw[hj]at c1;exact .inl ⟨zAV c1▸c2.status,λe=>by omega⟩
def Inv.awake (h:Inv G b S gs w t):∀g∈gs,Conc.awake g:=by
 intro g hg;obtain⟨j,hj,rfl⟩:=zCI.1 hg;rcases h.kinds (zAI hj)with⟨h1,_⟩|⟨_,_,z,z',e⟩|⟨_,_,_,z,e⟩|⟨_,_,_,v,z,e⟩
 .exact awake_of (h1.imp id .inr)
 .rw[e];exact awake_of (.inr (.inl rfl))
 .rw[e];exact awake_of (.inr (.inl rfl))
 .rw[e];exact awake_of (.inr (.inl rfl))
def B9 {f:α->α} {a:Array α} (h:∀(j:Nat) (x:α),a[j]?=some x->f x=x):a.map f=a:=by
 apply zFM;intro j;rw[zCN];cases hj:a[j]? with
 |none=>rfl
 |some x=>rw[zBA,h j x hj]
def Inv.woken (h:Inv G b S gs w t) {w':nq} (ho:isChan w' G.co) (hd:isChan w' G.cd) (g g':Goroutine):gs.map (Conc.woken P g g' w')=gs:=by
 obtain⟨s,tm,ho⟩:=ho;obtain⟨s',bR,hd⟩:=hd;refine B9 λj x hj=>?_;unfold Conc.woken;split
 .rcases h.kinds hj with⟨h1,_⟩|⟨_,_,z,z',e⟩|⟨_,_,_,z,e⟩|⟨_,_,_,v,z,e⟩
  .exact again_running _ h1
  .rw[e];refine again_all_open λcc wI=>?_;have:cc=rcase G.co z\/cc=rcase G.cd z':=by simpa using wI
   rcases this with rfl|rfl
   .exact⟨_,_,_,_,_,_,_,rfl,ho⟩
   .exact⟨_,_,_,_,_,_,_,rfl,hd⟩
  .rw[e];exact again_send_open ho
  .rw[e];exact again_send_open hd
 .rfl
def Inv.sq (h:Inv G b S gs w t) (hj:gs[j]?=some x) (h0:¬(j=0/\S.mp=true)) (c:Nat):offersAt x c false=[]:=by
 rcases h.kinds hj with⟨h1,_⟩|⟨e1,e2,_⟩|⟨_,_,_,z,e⟩|⟨_,_,_,v,z,e⟩
 .exact offersAt_of_not_blocked (λe=>by rcases h1 with h1|h1<;>rw[h1]at e<;>cases e) _ _
 .exact absurd ⟨e1,e2⟩ h0
 .rw[e];exact offersAt_parked_send' ..
 .rw[e];exact offersAt_parked_send' ..
end
def aY (kn:Nat->Prop) (w:nq):aN kn w w=kn:=by
 funext r;apply propext;unfold aN new;constructor
 .rintro(h|⟨h1,h2⟩)
  .exact h
  .omega
 .exact .inl
def bO (f:Nat->α) (i:Nat):upd f i (f i)=f:=by
 funext a;by_cases e:a=i
 .subst e;rw[upd_same]
 .rw[upd_ne _ _ e]
def Fair.refl {kn own:Nat->Prop} {w:nq} (h:∀e∈es,Hf kn own e):Fair kn own w w es:=
 ⟨zAB _,λ_ _ _=>rfl,rfl,rfl,rfl,zAB _,by rw[aY,aY];exact h⟩
def Co.Y8 {w:nq} {t:Trace} (h:Co A kn own w.heap.size t) (hi:A i) (he:∀e∈es,Hf (kn i) (own i) e) (fn:FuncId) (pos:String):
 Co A kn own w.heap.size (t++MemOp.ofEvents i fn pos es):=by
 have:=h.step hi rfl (Fair.refl he) fn pos;rwa [aY,aY,bO,bO]at this
def Co.rm {A':Nat->Prop} {B:Nat} {t:Trace} (h:Co A kn own B t) (e:∀g,A' g↔A g):Co A' kn own B t:=by
 have:A'=A:=funext λg=>propext (e g);rw[this];exact h
section
variable {P:un} {G:jm P} {b:Nat} {S S':St} {gs fH:Array Goroutine} {w w':nq} {t:Trace} {sl:Option (Nat × Nat)}
def pV (G:jm P) (b:Nat) (S:St) (gs:Array Goroutine) (w:nq) (sl:Option (Nat×Nat)) (t:Trace) (i:Nat):Prop:=
 ∃S' fH w' iz ops,runT P (crowd gs w sl) i=(.next (crowd fH w' iz),ops)/\Mu.lt P G.co G.cd (b+G.T) (S'.mu G b) (S.mu G b)/\Inv G b S' fH w' (t++ops)
def St.Mn.other (h:S.Mn G b gs w) (e1:S'.mn=S.mn) (e2:S'.mp=S.mp) (e3:S'.kn 0=S.kn 0) (e4:S'.own 0=S.own 0) (e5:S'.k=S.k) (e6:S'.n=S.n) (e7:S'.M=S.M) (hg:fH[0]?=gs[0]?) (he:Env (S.kn 0) w w')
 (cu:S.mp=true->∀i,b<=i->i<b+S.k->S'.dh i≠ .po/\S'.dh i≠ .pd):S'.Mn G b fH w':=by
 obtain⟨a1,a2,a3,a4⟩:=h;rw[a1]at he;refine⟨by rw[e3,e1];exact a1,by rw[e4,e1];exact a2,by rw[e1];exact a3.trans he,?_⟩;have wB:S'.At G=S.At G:=by unfold St.At;rw[e5,e6,e7]
 rw[e2];cases hm:S.mp with
 |true=>
  rw[hm]at a4;obtain⟨b1,b2,⟨w1,z,z',es,c1,c2,c3,c4⟩,b3⟩:=a4;refine⟨by rw[e5];exact b1,by rw[e6];exact b2,⟨w1,z,z',es,by rw[e6,e7,e1];exact c1,by rw[e1];exact c2.trans he,by rw[e1];exact c3,by rw[e1,hg];exact c4⟩,?_⟩;rw[e5];exact cu hm
 |false=>
  rw[hm]at a4;refine⟨by rw[hg,e1];exact a4.1,by rw[e1];exact a4.2.1,by rw[e1];exact a4.2.2.1,by rw[e1,wB];exact a4.2.2.2⟩
def aO {a:Array α} (x:α) (h:j≠i):(a.setIfInBounds i x)[j]?=a[j]?:=zCS (Ne.symm h)
def ba {a:Array α} (x:α) (h:i<a.size):(a.setIfInBounds i x)[i]?=some x:=by simp[h]
def li {q q':Nat->Nat} {n:Nat} (hi:i<n) (h:q' i<q i) (ho:∀j,j≠i->q' j=q j):sumTo n q'<sumTo n q:=by
 have e:q'=upd q i (q' i):=by
  funext a;by_cases ea:a=i
  .subst ea;rw[upd_same]
  .rw[upd_ne _ _ ea,ho a ea]
 have:=sumTo_upd q (q' i) (λx=>x) hi;rw[<-e]at this;have this:sumTo n q'+q i=sumTo n q+q' i:=this;omega
def Inv.quit (h:Inv G b S gs w t) {g:Goroutine} (hi:gs[i]?=some g) (hr:g.status=.running) (gU:0<i) (hk:i<b\/(b<=i/\S.dh i=.left)):pV G b S gs w sl t i:=by
 have av:i<b+S.k:=by rw[<-h.size];exact(zAD.1 hi).1
 have hq:QuitsIn P (S.q i) g:=by
  rcases hk with hk|⟨hk,hs⟩
  .exact h.old i g gU hk hi
  .have:=(h.wk i hk av).2;rw[hs]at this;obtain⟨_,g1,h1,h2⟩:=this;rw[hi]at h1;exact zAV h1▸h2
 have S4:¬S.act b i:=by
  rintro(e|⟨e1,e2,e3⟩)
  .omega
  .rcases hk with hk|⟨_,hs⟩
   .omega
   .exact e3 hs
 cases Bo:S.q i with
 |zero=>rw[Bo]at hq;rw[show g.status=.finished from hq]at hr;cases hr
 |succ n=>
  rw[Bo]at hq;rcases hq with hf|⟨_,g',cu,xD⟩
  .rw[hf]at hr;cases hr
  have EY:(i==0)=false:=by simp;omega
  have bp:=runT_crowd_go (P:=P) (w:=w) (sl:=sl) hi (by rw[EY];exact cu w);rw[h.woken h.B6 h.B7]at bp;have e0:t++MemOp.ofEvents i g.frame.fn g.frame.place #[]=t:=by simp[MemOp.ofEvents]
  refine⟨{S with q:=upd S.q i n},_,w,sl,_,bp,?_,?_⟩
  .refine .right _ (.right _ (.right _ ?_));refine li (i:=i) (show i<b+G.T by have:=h.kT;omega) ?_ λj hj=>upd_ne _ _ hj;show upd S.q i n i<S.q i;rw[upd_same,Bo];omega
  .rw[e0];refine⟨h.b1,by simpa using h.size,h.kT,h.co,h.B6,h.B7,h.Jq,λj x hj zo hx=>?_,λj hj tK=>?_,?_,h.cnt,h.LV,h.marks,h.early⟩
   .by_cases e:j=i
    .subst e;rw[ba _ (zAD.1 hi).1]at hx;show QuitsIn P (upd S.q j n j) x;rw[upd_same,<-zAV hx];exact xD
    .rw[aO _ e]at hx;show QuitsIn P (upd S.q i n j) x;rw[upd_ne _ _ e];exact h.old j x hj zo hx
   .by_cases e:j=i
    .subst e
     have hs:S.dh j=.left:=by
      rcases hk with hk|⟨_,hs⟩
      .omega
      .exact hs
     have:=(h.wk j hj tK).2;rw[hs]at this;refine⟨λhn=>absurd hs hn,?_⟩;show(match S.dh j with|.run=>_|.po=>_|.pd=>_|.left=>_);rw[hs];refine⟨this.1,g',ba _ (zAD.1 hi).1,?_⟩;show QuitsIn P (upd S.q j n j) g';rw[upd_same];exact xD
    .exact(h.wk j hj tK).other rfl rfl (upd_ne _ _ e) rfl rfl (aO _ e) λ_=>Env.refl _ _
   .exact h.main.other rfl rfl rfl rfl rfl rfl rfl (aO _ (by omega)) (Env.refl _ _) λhm=>by
     have:=h.main.2.2.2;rw[hm]at this;exact this.2.2.2
def Inv.U1 (h:Inv G b S gs w t) (hm:S.mp=false) (wB:¬S.mn.At S.mn.kn S.mn.own S.mn.g w) (cu:stepG P true S.mn.g w=.go g2 w3 es) (hr:g2.status=.running)
 (hf:Fair S.mn.kn S.mn.own w w3 es):pV G b S gs w sl t 0:=by
 obtain⟨a1,a2,a3,a4⟩:=h.main;rw[hm]at a4;obtain⟨c1,c2,c3,c4⟩:=a4;have h0:S.act b 0:=.inl rfl;have hb:=h.b1;have Hi:Fair (S.kn 0) (S.own 0) w w3 es:=by rw[a1,a2];exact hf
 obtain⟨o1,o2⟩:=h.B8 h0 Hi;have bp:=runT_crowd_go (P:=P) (w:=w) (sl:=sl) c1 (show stepG P (0==0) S.mn.g w=_ from cu);rw[h.woken o1 o2]at bp;have cr:0<gs.size:=(zAD.1 c1).1;refine⟨{S with kn:=upd S.kn 0 (aN (S.kn 0) w w3),own:=upd S.own 0 (aN (S.own 0) w w3),mn:=⟨S.mn.At,aN S.mn.kn w w3,aN S.mn.own w w3,g2,w3⟩},_,w3,sl,_,bp,?_,?_⟩
 .refine .right _ (.right _ (.left _ _ ?_));show Prod.Lex _ _ ((⟨S.mn.At,aN S.mn.kn w w3,aN S.mn.own w w3,g2,w3⟩:mL),if S.mp=true then 0 else 1) (S.mn,if S.mp=true then 0 else 1);exact .left _ _ ⟨c3,rfl,w,es,a3,wB,cu,rfl,rfl⟩
 .refine⟨hb,by simpa using h.size,h.kT,h.co.step h0 rfl Hi _ _,o1,o2,λj hj=>?_,λj x hj zo hx=>?_,λj hj tK=>?_,?_,h.cnt,h.LV,h.marks,h.early⟩
  .obtain⟨n1,n2⟩:=h.Jq j hj;have l1:=h.B6.lt;have l2:=h.B7.lt;by_cases e:j=0
   .subst e;show¬upd S.kn 0 (aN (S.kn 0) w w3) 0 _/\¬upd S.kn 0 (aN (S.kn 0) w w3) 0 _;rw[upd_same];exact⟨λx=>x.elim n1 λx=>by have:=x.1;omega,λx=>x.elim n2 λx=>by have:=x.1;omega⟩
   .show¬upd S.kn 0 _ j _/\¬upd S.kn 0 _ j _;rw[upd_ne _ _ e];exact⟨n1,n2⟩
  .rw[aO _ (by omega)]at hx;exact h.old j x hj zo hx
  .have e:j≠0:=by omega
   exact(h.wk j hj tK).other rfl rfl rfl (upd_ne _ _ e) (upd_ne _ _ e) (aO _ e) λhn=>h.zJ h0 Hi (.inr ⟨hj,tK,hn⟩) e
  .refine⟨?_,?_,Env.refl _ _,?_⟩
   .show upd S.kn 0 (aN (S.kn 0) w w3) 0=aN S.mn.kn w w3;rw[upd_same,a1]
   .show upd S.own 0 (aN (S.own 0) w w3) 0=aN S.mn.own w w3;rw[upd_same,a2]
   .show(match S.mp with|true=>_|false=>_);rw[hm];refine⟨ba _ cr,hr,?_,c4⟩;have j6:jK P S.mn.At S.mn.kn S.mn.own S.mn.g S.mn.w:=c3;cases j6 with
    |mk ok go=>exact go w g2 w3 es a3 wB cu
def Inv.LW (h:Inv G b S gs w t) (hb:b<=i) (hk:i<b+S.k) (hs:S.dh i=.run) (cu:stepG P false (S.x i).g w=.go g2 w3 es) (hr:g2.status=.running)
 (hf:Fair (S.x i).kn (S.x i).own w w3 es):pV G b S gs w sl t i:=by
 have Jr:=h.wk i hb hk;have hn:S.dh i≠ .left:=by rw[hs];simp
 obtain⟨a1,a2,a3,a4,a5,a6,a7⟩:=Jr.1 hn;have c:=Jr.2;rw[hs]at c;obtain⟨c1,c2⟩:=c;have hi:S.act b i:=.inr ⟨hb,hk,hn⟩;have bq:=h.b1;have Hi:Fair (S.kn i) (S.own i) w w3 es:=by rw[a4,a5];exact hf
 obtain⟨o1,o2⟩:=h.B8 hi Hi;have EY:(i==0)=false:=by simp;omega
 have bp:=runT_crowd_go (P:=P) (w:=w) (sl:=sl) c1 (by rw[EY];exact cu);rw[h.woken o1 o2]at bp;have cr:i<gs.size:=(zAD.1 c1).1;refine⟨{S with kn:=upd S.kn i (aN (S.kn i) w w3),own:=upd S.own i (aN (S.own i) w w3),x:=upd S.x i ⟨(S.x i).vm,(S.x i).s,aN (S.x i).kn w w3,aN (S.x i).own w w3,g2,w3⟩},_,w3,sl,_,bp,?_,?_⟩
 .refine .right _ (.left _ _ ⟨i,by have:=h.kT;omega,?_,λj hj=>?_⟩)
  .show Prod.Lex _ _ (upd S.x i _ i,if S.dh i=pU.run then 1 else 0) (S.x i,if S.dh i=pU.run then 1 else 0);rw[upd_same];exact .left _ _ ⟨a1,rfl,w,a6,.inl ⟨es,cu,rfl,rfl,rfl⟩⟩
  .show(upd S.x i _ j,_)=(S.x j,_)
   rw[upd_ne _ _ hj]
 .refine⟨bq,by simpa using h.size,h.kT,h.co.step hi rfl Hi _ _,o1,o2,λj hj=>?_,λj x hj zo hx=>?_,λj hj tK=>?_,?_,h.cnt,h.LV,λm=>?_,h.early⟩
  .obtain⟨n1,n2⟩:=h.Jq j hj;have l1:=h.B6.lt;have l2:=h.B7.lt;by_cases e:j=i
   .subst e;show¬upd S.kn j (aN (S.kn j) w w3) j _/\¬upd S.kn j (aN (S.kn j) w w3) j _;rw[upd_same];exact⟨λx=>x.elim n1 λx=>by have:=x.1;omega,λx=>x.elim n2 λx=>by have:=x.1;omega⟩
   .show¬upd S.kn i _ j _/\¬upd S.kn i _ j _;rw[upd_ne _ _ e];exact⟨n1,n2⟩
  .rw[aO _ (by omega)]at hx;exact h.old j x hj zo hx
  .by_cases e:j=i
   .subst e;refine⟨λ_=>?_,?_⟩
    .show kD.ok P G.co G.cd (upd S.x j _ j)/\_;simp only[upd_same];have j6:WT P G.co G.cd (S.x j).vm (S.x j).s (S.x j).kn (S.x j).own (S.x j).g (S.x j).w:=a1;refine⟨?_,a2,a3,by rw[a4],by rw[a5],Env.refl _ _,a7⟩;cases j6 with
     |mk ok go U0=>exact go w g2 w3 es a6 cu
    .show(match S.dh j with|.run=>_|.po=>_|.pd=>_|.left=>_);rw[hs];simp only[upd_same];exact⟨ba _ cr,hr⟩
   .exact(h.wk j hj tK).other rfl (upd_ne _ _ e) rfl (upd_ne _ _ e) (upd_ne _ _ e) (aO _ e) λhn=>h.zJ hi Hi (.inr ⟨hj,tK,hn⟩) e
  .have e:(0:Nat)≠i:=by omega
   exact h.main.other rfl rfl (upd_ne _ _ e) (upd_ne _ _ e) rfl rfl rfl (aO _ e) (h.zJ hi Hi (.inl rfl) e) λhm=>by
    have:=h.main.2.2.2;rw[hm]at this;exact this.2.2.2
  .rw[h.marks m];show _↔_/\_/\(upd S.x i _ (b+m)).s=false;by_cases e:b+m=i
   .rw[<-e,upd_same]
   .rw[upd_ne _ _ e]
end
end Go.aC
namespace Go.aC
open Go.Conc
open Go.ConcN (upd upd_same upd_ne sumTo sumTo_upd sumTo_congr le_sumTo sumTo_le)
variable {A:Nat->Prop} {B c i j q r s:Nat} {Zc es:Array Event} {g:Goroutine} {kn own:Nat->Nat->Prop} {tm:Bool} {v z z1 z2:fu} {wm:nq} {x1 x2 x3 x4:MemOp}
section
variable {P:un} {G:jm P} {b:Nat} {S S':St} {gs fH:Array Goroutine} {w w':nq} {t t':Trace} {sl:Option (Nat × Nat)}
def Y9 (t u:Trace) (x y:MemOp):t++((u.push x).push y)=(t++u)++#[x,y]:=by
 apply Array.ext';simp
def Inv.Js (h:Inv G b S gs w t) (hm:S.mp=false) (hk:S.k<G.T) (wB:G.EX S.k S.mn.kn S.mn.own S.mn.g w):pV G b S gs w sl t 0:=by
 obtain⟨a1,a2,a3,a4⟩:=h.main;rw[hm]at a4;obtain⟨c1,c2,c3,c4⟩:=a4;have h0:S.act b 0:=.inl rfl;have hb:=h.b1;obtain⟨YM,hM0⟩:=h.early hk;obtain⟨g2,child,es,K,k0,o0,s1,s2,s3,s4,s5,s6,s7,s8,s9,PT,s11⟩:=G.spw _ _ _ _ _ hk wB;have bp:=runT_crowd_spawn (P:=P) (w:=w) (sl:=sl) c1 (show stepG P (0==0) S.mn.g w=_ from s1);have cr:0<gs.size:=(zAD.1 c1).1;have hc:gs.size=b+S.k:=h.size;have qS:S.dh gs.size=.run:=h.LV _ (by omega);have U2:=h.co.Y8 h0 (es:=es) (by rw[a1,a2];exact s2) S.mn.g.frame.fn S.mn.g.frame.place
 have S4:¬S.act b gs.size:=by
  rintro(e|⟨_,e,_⟩)
  .omega
  .omega
 have U3:=U2.spawn h0 (c:=gs.size) (by omega) S4 (K:=K) (k0:=k0) (o0:=o0) (by rw[a1];exact s5) (by rw[a1];exact s6) (by rw[a2];exact s7) s8 s9
  (x:={g:=0,fn:=S.mn.g.frame.fn,pos:=S.mn.g.frame.place,act:=.go gs.size}) (y:={g:=gs.size,fn:=child.frame.fn,pos:=S.mn.g.frame.place,act:=.start}) ⟨rfl,rfl⟩ ⟨rfl,rfl⟩
 obtain⟨nc1,nc2⟩:=h.Jq 0 h0;rw[a1]at nc1 nc2
 have Za:∀j,j≠0->j<gs.size->((gs.setIfInBounds 0 g2).push child)[j]?=gs[j]?:=λj hj av=>by
  rw[zBS];simp only[zDU];rw[zAG (by omega),aO _ hj]
 refine⟨{S with k:=S.k+1,kn:=upd (upd S.kn 0 k0) gs.size K,own:=upd (upd S.own 0 o0) gs.size λ_=>False,x:=upd S.x gs.size ⟨G.vm S.k,G.E S.k,K,λ_=>False,child,w⟩,q:=upd S.q gs.size 0,mn:=⟨if S.k+1<G.T then G.EX (S.k+1)else G.Bm 0 λ_=>false,k0,o0,g2,w⟩},_,w,sl,_,bp,?_,?_⟩
 .refine .left _ _ ?_;show 2*(G.T-(S.k+1))+(S.k+1-S.n)<2*(G.T-S.k)+(S.k-S.n)
  omega
 .refine⟨hb,by simp[hc];omega,hk,?_,h.B6,h.B7,λj hj=>?_,λj x hj zo hx=>?_,λj hj tK=>?_,?_,h.cnt,λi hi=>h.LV i (by show _;have:b+(S.k+1)<=i:=hi;omega),λm=>?_,λBg=>⟨YM,hM0⟩⟩
  .rw[Y9];refine U3.rm λg=>?_;show(g=0\/(b<=g/\g<b+(S.k+1)/\S.dh g≠ .left))↔((g=0\/(b<=g/\g<b+S.k/\S.dh g≠ .left))\/g=gs.size)
   constructor
   .rintro(e|⟨e1,e2,e3⟩)
    .exact .inl (.inl e)
    .by_cases e:g=gs.size
     .exact .inr e
     .exact .inl (.inr ⟨e1,by omega,e3⟩)
   .rintro((e|⟨e1,e2,e3⟩)|e)
    .exact .inl e
    .exact .inr ⟨e1,by omega,e3⟩
    .rw[e];exact .inr ⟨by omega,by omega,by rw[qS];simp⟩
  .by_cases e:j=gs.size
   .subst e;show¬upd (upd S.kn 0 k0) gs.size K gs.size _/\¬upd (upd S.kn 0 k0) gs.size K gs.size _;rw[upd_same];exact⟨λx=>nc1 (s5 _ x),λx=>nc2 (s5 _ x)⟩
   .show¬upd (upd S.kn 0 k0) gs.size K j _/\¬upd (upd S.kn 0 k0) gs.size K j _;rw[upd_ne _ _ e];by_cases e0:j=0
    .subst e0;rw[upd_same];exact⟨λx=>nc1 (s6 _ x),λx=>nc2 (s6 _ x)⟩
    .rw[upd_ne _ _ e0];refine h.Jq j ?_;rcases hj with hj|⟨XR,pW,S5⟩
     .exact absurd hj e0
     .exact .inr ⟨XR,by have:j<b+(S.k+1):=pW;omega,S5⟩
  .rw[Za j (by omega) (by omega)]at hx;show QuitsIn P (upd S.q gs.size 0 j) x;rw[upd_ne _ _ (by omega)];exact h.old j x hj zo hx
  .by_cases e:j=gs.size
   .subst e;refine⟨λ_=>?_,?_⟩
    .simp only[upd_same];exact⟨PT,by rw[hc];simp,λx=>by rw[hc];simpa using x,trivial,trivial,Env.refl _ _,trivial⟩
    .show(match S.dh gs.size with|.run=>_|.po=>_|.pd=>_|.left=>_);rw[qS];simp only[upd_same];refine⟨?_,s4⟩;rw[zBS];simp
   .have zdP:j<b+S.k:=by have:j<b+(S.k+1):=tK;omega
    have e0:j≠0:=by omega
    exact(h.wk j hj zdP).other rfl (upd_ne _ _ e) (upd_ne _ _ e) (by show upd (upd S.kn 0 k0) gs.size K j=_;rw[upd_ne _ _ e,upd_ne _ _ e0]) (by show upd (upd S.own 0 o0) gs.size _ j=_;rw[upd_ne _ _ e,upd_ne _ _ e0])
     (Za j e0 (by omega)) λ_=>Env.refl _ _
  .have e:(0:Nat)≠gs.size:=by omega
   refine⟨?_,?_,Env.refl _ _,?_⟩
   .show upd (upd S.kn 0 k0) gs.size K 0=k0;rw[upd_ne _ _ e,upd_same]
   .show upd (upd S.own 0 o0) gs.size (λ_=>False) 0=o0;rw[upd_ne _ _ e,upd_same]
   .show(match S.mp with|true=>_|false=>_);rw[hm];refine⟨?_,s3,s11,?_⟩
    .rw[zBS];simp only[zDU];rw[zAG (by omega)];exact ba _ cr
    .show(if S.k+1<G.T then G.EX (S.k+1)else G.Bm 0 λ_=>false)=(if S.k+1<G.T then G.EX (S.k+1)else if S.n<G.T then G.Bm S.n S.M else G.Out S.M)
     rw[YM,zAF G.pos,show S.M=λ_=>false from funext hM0]
  .show S.M m=true↔(m<S.k+1/\G.E m=true/\(upd S.x gs.size ⟨G.vm S.k,G.E S.k,K,λ_=>False,child,w⟩ (b+m)).s=false)
   rw[hM0 m];constructor
   .intro x;cases x
   .rintro⟨x1,x2,x3⟩;exfalso;by_cases e:m=S.k
    .subst e;rw[hc,upd_same]at x3;simp only at x3;rw[x2]at x3;cases x3
    .rw[upd_ne _ _ (by omega)]at x3;have:=(h.marks m).2 ⟨by omega,x2,x3⟩;rw[hM0 m]at this;cases this
def Inv.Zb (h:Inv G b S gs w t) (hb:b<=i) (hk:i<b+S.k) (hs:S.dh i=.run) (hm:S.mp=false) {st:pU} (cu:st=.po\/st=.pd) {g':Goroutine} (Y7:∀e∈es,Hf (S.x i).kn (S.x i).own e)
 (bp:runT P (crowd gs w sl) i=(.next (crowd (gs.setIfInBounds i g') w sl),MemOp.ofEvents i (S.x i).g.frame.fn (S.x i).g.frame.place es))
 (Jr:St.Wk G b {S with dh:=upd S.dh i st} (gs.setIfInBounds i g') w i):pV G b S gs w sl t i:=by
 have hn:S.dh i≠ .left:=by rw[hs];simp
 have zK:st≠ .left:=by rcases cu with rfl|rfl<;>simp
 obtain⟨a1,a2,a3,a4,a5,a6,a7⟩:=(h.wk i hb hk).1 hn;have hi:S.act b i:=.inr ⟨hb,hk,hn⟩;have bq:=h.b1
 have pX:∀j,(upd S.dh i st j=.left↔S.dh j=.left):=λj=>by
  by_cases e:j=i
  .subst e;rw[upd_same];exact⟨λx=>absurd x zK,λx=>absurd x hn⟩
  .rw[upd_ne _ _ e]
 refine⟨{S with dh:=upd S.dh i st},_,w,sl,_,bp,?_,?_⟩
 .refine .right _ (.left _ _ ⟨i,by have:=h.kT;omega,?_,λj hj=>?_⟩)
  .show Prod.Lex _ _ (S.x i,if upd S.dh i st i=pU.run then 1 else 0) (S.x i,if S.dh i=pU.run then 1 else 0);rw[upd_same,hs,zAF rfl,zAG (by rcases cu with rfl|rfl<;>simp)];exact .right _ Nat.zero_lt_one
  .show(S.x j,if upd S.dh i st j=pU.run then 1 else 0)=_;rw[upd_ne _ _ hj]
 .refine⟨bq,by simpa using h.size,h.kT,?_,h.B6,h.B7,λj hj=>h.Jq j ?_,λj x hj zo hx=>?_,λj hj tK=>?_,?_,?_,λj hj=>?_,h.marks,h.early⟩
  .refine(h.co.Y8 hi (by rw[a4,a5];exact Y7) _ _).rm λg=>?_;show(g=0\/(b<=g/\g<b+S.k/\upd S.dh i st g≠ .left))↔(g=0\/(b<=g/\g<b+S.k/\S.dh g≠ .left))
   rw[Ne,pX]
  .rcases hj with hj|⟨h1,h2,h3⟩
   .exact .inl hj
   .exact .inr ⟨h1,h2,λx=>h3 ((pX j).2 x)⟩
  .rw[aO _ (by omega)]at hx;exact h.old j x hj zo hx
  .by_cases e:j=i
   .subst e;exact Jr
   .exact(h.wk j hj tK).other (upd_ne _ _ e) rfl rfl rfl rfl (aO _ e) λ_=>Env.refl _ _
  .exact h.main.other rfl rfl rfl rfl rfl rfl rfl (aO _ (by omega)) (Env.refl _ _) λx=>by rw[hm]at x;cases x
  .rw[<-h.cnt];refine sumTo_congr λj _=>?_;show(if upd S.dh i st (b+j)=pU.left then 1 else 0)=_;by_cases e:S.dh (b+j)=.left
   .rw[zAF ((pX _).2 e),zAF e]
   .rw[zAG λx=>e ((pX _).1 x),zAG e]
  .show upd S.dh i st j=.run;have:b+S.k<=j:=hj;rw[upd_ne _ _ (by omega)];exact h.LV j hj
def Inv.Hj (h:Inv G b S gs w t) (hc:c=G.co\/c=G.cd) (hh:∀r,r≠c->w'.heap[r]?=w.heap[r]?) (cr:w'.heap.size=w.heap.size/\w'.os=w.os/\w'.output=w.output) (hj:S.act b j):Env (S.kn j) w w':=
 ⟨by omega,λr hr=>hh r λe=>by
   obtain⟨n1,n2⟩:=h.Jq j hj;subst e;rcases hc with rfl|rfl
   .exact n1 hr
   .exact n2 hr,cr.2.1,cr.2.2⟩
def Inv.Hk (h:Inv G b S gs w t) (hb:b<=j) (hk:j<b+S.k) (hs:S.dh j=.run\/S.dh j=.po) (GY:(S.x j).s=true) {w1:nq} {es1:Array Event} (e1:Env (S.x j).kn (S.x j).w w1) (e2:Env (S.x j).kn w1 w)
 (cn:stepG P false (S.x j).g w1=.comm (S.x j).g #[scase G.co (S.x j).vm z] true .send w1 es1)
 (hn:S.n<G.T) (S6:S.k=G.T) (Ca:G.Bm S.n S.M S.mn.kn S.mn.own S.mn.g wm) (em:Env S.mn.kn wm w)
 (EZ:stepG P true S.mn.g wm=.comm S.mn.g #[rcase G.co z1,rcase G.cd z2] true .select wm Zc)
 (hh:∀r,r≠G.co->w'.heap[r]?=w.heap[r]?) (cr:w'.heap.size=w.heap.size/\w'.os=w.os/\w'.output=w.output) (mM:isChan w' G.co)
 (g0:fH[0]?=some (S.mn.g.finishComm P #[rcase G.co z1,rcase G.cd z2] .select (0:Nat) (S.x j).vm true)) (gj:fH[j]?=some (Conc.served (S.x j).g undef)) (go:∀i,i≠0->i≠j->fH[i]?=gs[i]?) (uE:fH.size=gs.size)
 (U4:Co (S.act b) S.kn S.own w'.heap.size t'):∃S',Mu.lt P G.co G.cd (b+G.T) (S'.mu G b) (S.mu G b)/\Inv G b S' fH w' t':=by
 have Lj:S.dh j≠ .left:=by rcases hs with hs|hs<;>rw[hs]<;>simp
 obtain⟨a1,a2,a3,a4,a5,a6,a7⟩:=(h.wk j hb hk).1 Lj;obtain⟨m1,m2,m3,_⟩:=h.main;have bq:=h.b1;have hj:S.act b j:=.inr ⟨hb,hk,Lj⟩;have env:∀{i},S.act b i->Env (S.kn i) w w':=λhi=>h.Hj (.inl rfl) hh cr hi;obtain⟨es,y,y',l1,l2,l3,_⟩:=G.sel _ _ _ _ _ _ hn Ca;rw[EZ]at l1;simp only[GStep.comm.injEq,zCO,zCB,rcase,CommCase.mk.injEq,zCK,zEC]at l1;obtain⟨⟨rfl,rfl⟩,rfl⟩:=l1;have hE:=a3 GY;have hmT:j-b<G.T:=by omega
 have pX:∀i,(upd S.dh j .run i=.left↔S.dh i=.left):=λi=>by
  by_cases e:i=j
  .subst e;rw[upd_same];exact⟨λx=>(by cases x),λx=>absurd x Lj⟩
  .rw[upd_ne _ _ e]
 refine⟨{S with M:=λa=>if a=j-b then true else S.M a,dh:=upd S.dh j .run,x:=upd S.x j ⟨(S.x j).vm,false,(S.x j).kn,(S.x j).own,Conc.served (S.x j).g undef,w1⟩,mp:=false,mn:=⟨G.Bm S.n λa=>if a=j-b then true else S.M a,S.mn.kn,S.mn.own,S.mn.g.finishComm P #[rcase G.co z1,rcase G.cd z2] .select (0:Nat) (S.x j).vm true,w'⟩},?_,?_⟩
 .refine .right _ (.left _ _ ⟨j,by omega,?_,λi hi=>?_⟩)
  .show Prod.Lex _ _ (upd S.x j _ j,_) (S.x j,_);rw[upd_same];exact .left _ _ ⟨a1,rfl,w1,e1,.inr ⟨z,es1,cn,rfl,rfl,rfl,rfl,rfl⟩⟩
  .show(upd S.x j _ i,if upd S.dh j .run i=pU.run then 1 else 0)=_;rw[upd_ne _ _ hi,upd_ne _ _ hi]
 .refine⟨bq,by rw[uE];exact h.size,h.kT,?_,mM,?_,λi hi=>h.Jq i ?_,λi x hi Hl hx=>?_,λi hi PU=>?_,?_,?_,λi hi=>?_,λm=>?_,λx=>by have:S.k<G.T:=x;omega⟩
  .refine U4.rm λg=>?_;show(g=0\/(b<=g/\g<b+S.k/\upd S.dh j .run g≠ .left))↔(g=0\/(b<=g/\g<b+S.k/\S.dh g≠ .left))
   rw[Ne,pX]
  .obtain⟨s,tm,hc⟩:=h.B7;exact⟨s,tm,(hh _ (Ne.symm G.ne)).trans hc⟩
  .rcases hi with hi|⟨h1,h2,h3⟩
   .exact .inl hi
   .exact .inr ⟨h1,h2,λx=>h3 ((pX i).2 x)⟩
  .rw[go i (by omega) (by omega)]at hx;exact h.old i x hi Hl hx
  .by_cases e:i=j
   .subst e;refine⟨λ_=>?_,?_⟩
    .simp only[upd_same];refine⟨?_,a2,λx=>(by cases x),a4,a5,e2.trans (a4▸env hj),a7⟩;have j6:WT P G.co G.cd (S.x i).vm (S.x i).s (S.x i).kn (S.x i).own (S.x i).g (S.x i).w:=a1;cases j6 with
     |mk ok go U0=>exact U0 w1 z es1 e1 cn
    .show(match upd S.dh i .run i with|.run=>_|.po=>_|.pd=>_|.left=>_);simp only[upd_same];exact⟨gj,rfl⟩
   .exact(h.wk i hi PU).other (upd_ne _ _ e) (upd_ne _ _ e) rfl rfl rfl (go i (by omega) e) λhn=>env (.inr ⟨hi,PU,hn⟩)
  .refine⟨m1,m2,Env.refl _ _,g0,rfl,?_,?_⟩
   .show jK P _ S.mn.kn S.mn.own _ w';rw[a2];exact l3 w' (j-b) (em.trans (m1▸env (.inl rfl))) hmT hE
   .show G.Bm S.n _=(if S.k<G.T then G.EX S.k else if S.n<G.T then G.Bm S.n _ else G.Out _)
    rw[zAG (by omega),zAF hn]
  .rw[<-h.cnt];refine sumTo_congr λi _=>?_;show(if upd S.dh j .run (b+i)=pU.left then 1 else 0)=_;by_cases e:S.dh (b+i)=.left
   .rw[zAF ((pX _).2 e),zAF e]
   .rw[zAG λx=>e ((pX _).1 x),zAG e]
  .show upd S.dh j .run i=.run;have:b+S.k<=i:=hi;rw[upd_ne _ _ (by omega)];exact h.LV i hi
  .show(if m=j-b then true else S.M m)=true↔(m<S.k/\G.E m=true/\(upd S.x j _ (b+m)).s=false)
   by_cases e:m=j-b
   .have e':b+m=j:=by omega
    rw[zAF e,e',upd_same];exact⟨λ_=>⟨by omega,by rw[e];exact hE,rfl⟩,λ_=>rfl⟩
   .rw[zAG e,upd_ne _ _ (by omega)];exact h.marks m
def Inv.Cb (h:Inv G b S gs w t) (hb:b<=j) (hk:j<b+S.k) (hs:S.dh j≠ .left) (GY:(S.x j).s=false) (hq:QuitsIn P q (Conc.served (S.x j).g undef))
 (hn:S.n<G.T) (S6:S.k=G.T) (Ca:G.Bm S.n S.M S.mn.kn S.mn.own S.mn.g wm) (em:Env S.mn.kn wm w)
 (EZ:stepG P true S.mn.g wm=.comm S.mn.g #[rcase G.co z1,rcase G.cd z2] true .select wm Zc)
 (hh:∀r,r≠G.cd->w'.heap[r]?=w.heap[r]?) (cr:w'.heap.size=w.heap.size/\w'.os=w.os/\w'.output=w.output) (hcd:isChan w' G.cd)
 (g0:fH[0]?=some (S.mn.g.finishComm P #[rcase G.co z1,rcase G.cd z2] .select (1:Nat) v true)) (gj:fH[j]?=some (Conc.served (S.x j).g undef)) (go:∀i,i≠0->i≠j->fH[i]?=gs[i]?) (uE:fH.size=gs.size)
 (U4:Co (λg=>S.act b g/\g≠j) S.kn S.own w'.heap.size t'):∃S',Mu.lt P G.co G.cd (b+G.T) (S'.mu G b) (S.mu G b)/\Inv G b S' fH w' t':=by
 obtain⟨m1,m2,m3,_⟩:=h.main;have bq:=h.b1;have env:∀{i},S.act b i->Env (S.kn i) w w':=λhi=>h.Hj (.inr rfl) hh cr hi;obtain⟨es,y,y',l1,l2,_,l3⟩:=G.sel _ _ _ _ _ _ hn Ca;rw[EZ]at l1;simp only[GStep.comm.injEq,zCO,zCB,rcase,CommCase.mk.injEq,zCK,zEC]at l1;obtain⟨⟨rfl,rfl⟩,rfl⟩:=l1;have hmT:j-b<G.T:=by omega
 have hM:S.n+1=G.T->∀m,m<G.T->S.M m=G.E m:=by
  intro S7 m hm
  have U5:(S.x (b+m)).s=false:=by
   by_cases e:m=j-b
   .rw[show b+m=j by omega];exact GY
   .have hl:S.dh (b+m)=.left:=by
     refine zBK λLj=>?_;have e1:=sumTo_upd (λa=>S.dh (b+a)) pU.left (λs=>if s=pU.left then 1 else 0) hmT;have e2:=sumTo_upd (upd (λa=>S.dh (b+a)) (j-b) pU.left) pU.left (λs=>if s=pU.left then 1 else 0) hm;rw[upd_ne _ _ e]at e2;rw[h.cnt]at e1;simp only[zAG Lj,show b+(j-b)=j by omega,zAG hs,zAF]at e1 e2;have:=sumTo_le (f:=λa=>if upd (upd (λa=>S.dh (b+a)) (j-b) pU.left) m pU.left a=pU.left then 1 else 0) (c:=1) (j:=G.T) λi _=>by split<;>omega
     omega
    have hw:=(h.wk (b+m) (by omega) (by omega)).2;rw[hl]at hw;exact hw.1
  have:=h.marks m;rw[U5]at this;cases hE:G.E m with
  |true=>exact this.2 ⟨by omega,hE,rfl⟩
  |false=>
   cases hMm:S.M m with
   |false=>rfl
   |true=>have:=(this.1 hMm).2.1;rw[hE]at this;cases this
 refine⟨{S with n:=S.n+1,dh:=upd S.dh j .left,q:=upd S.q j q,mp:=false,mn:=⟨if S.n+1<G.T then G.Bm (S.n+1) S.M else G.Out S.M,S.mn.kn,S.mn.own,S.mn.g.finishComm P #[rcase G.co z1,rcase G.cd z2] .select (1:Nat) v true,w'⟩},?_,?_⟩
 .refine .left _ _ ?_;show 2*(G.T-S.k)+(S.k-(S.n+1))<2*(G.T-S.k)+(S.k-S.n)
  omega
 .refine⟨bq,by rw[uE];exact h.size,h.kT,?_,?_,hcd,λi hi=>h.Jq i ?_,λi x hi Hl hx=>?_,λi hi PU=>?_,?_,?_,λi hi=>?_,h.marks,λx=>by have:S.k<G.T:=x;omega⟩
  .refine U4.rm λg=>?_;show(g=0\/(b<=g/\g<b+S.k/\upd S.dh j .left g≠ .left))↔((g=0\/(b<=g/\g<b+S.k/\S.dh g≠ .left))/\g≠j)
   by_cases e:g=j
   .subst e;rw[upd_same];simp;omega
   .rw[upd_ne _ _ e];simp[e]
  .obtain⟨s,tm,hc⟩:=h.B6;exact⟨s,tm,(hh _ G.ne).trans hc⟩
  .rcases hi with hi|⟨h1,h2,h3⟩
   .exact .inl hi
   .have h3:upd S.dh j .left i≠ .left:=h3;by_cases e:i=j
    .subst e;rw[upd_same]at h3;exact absurd rfl h3
    .rw[upd_ne _ _ e]at h3;exact .inr ⟨h1,h2,h3⟩
  .rw[go i (by omega) (by omega)]at hx;show QuitsIn P (upd S.q j q i) x;rw[upd_ne _ _ (by omega)];exact h.old i x hi Hl hx
  .by_cases e:i=j
   .subst e;refine⟨λx=>?_,?_⟩
    .have x:upd S.dh i .left i≠ .left:=x;rw[upd_same]at x;exact absurd rfl x
    .show(match upd S.dh i .left i with|.run=>_|.po=>_|.pd=>_|.left=>_);simp only[upd_same];exact⟨GY,_,gj,hq⟩
   .exact(h.wk i hi PU).other (upd_ne _ _ e) rfl (upd_ne _ _ e) rfl rfl (go i (by omega) e) λhn=>env (.inr ⟨hi,PU,hn⟩)
  .refine⟨m1,m2,Env.refl _ _,g0,rfl,?_,?_⟩
   .show jK P _ S.mn.kn S.mn.own _ w';exact l3 w' v (em.trans (m1▸env (.inl rfl))) hM
   .show _=(if S.k<G.T then G.EX S.k else if S.n+1<G.T then G.Bm (S.n+1) S.M else G.Out S.M)
    rw[zAG (show¬S.k<G.T by omega)]
  .have:=sumTo_upd (λa=>S.dh (b+a)) pU.left (λs=>if s=pU.left then 1 else 0) hmT;rw[h.cnt]at this;have e:b+(j-b)=j:=by omega
   simp only[e,zAG hs,zAF]at this;rw[<-this];show sumTo G.T (λa=>if upd S.dh j .left (b+a)=pU.left then 1 else 0)=_;rw[zDX];refine sumTo_congr λa _=>?_;by_cases ea:a=j-b
   .subst ea;rw[e,upd_same,upd_same]
   .rw[upd_ne _ _ ea,upd_ne _ _ (by omega)]
  .show upd S.dh j .left i=.run;have:b+S.k<=i:=hi;rw[upd_ne _ _ (by omega)];exact h.LV i hi
end
def uF {f:Nat->Nat}:∀{n:Nat},(∀j,j<n->f j=1)->sumTo n f=n
 |0,_=>rfl
 |n+1,h=>by
  have:=uF (n:=n) λj hj=>h j (by omega);simp only[sumTo,this,h n (by omega)]
section
variable {P:un} {G:jm P} {b:Nat} {S S':St} {gs fH:Array Goroutine} {w w':nq} {t t':Trace} {sl:Option (Nat × Nat)}
def Co.comm (h:Co A kn own B t) (hc:c<B) (h1:x1.act=.send c s) (h2:x2.act=.recv c r 0) (h3:x3.act=.sendDone c s) (h4:x4.act=.recvDone c r):
 Co A kn own B (t++#[x1,x2,x3,x4]):=by
 refine h.mute (λop cj=>?_) (λop cj=>?_) λop cj=>?_
 all_goals
  have:op=x1\/op=x2\/op=x3\/op=x4:=by simpa using cj
  rcases this with rfl|rfl|rfl|rfl
 .rw[h1];rfl
 .rw[h2];rfl
 .rw[h3];rfl
 .rw[h4];rfl
 .rw[h1];exact⟨by simp,by simp⟩
 .rw[h2];exact⟨by simp,by simp⟩
 .rw[h3];exact⟨by simp,by simp⟩
 .rw[h4];exact⟨by simp,by simp⟩
 .rw[h1];exact hc
 .rw[h2];exact hc
 .rw[h3];exact hc
 .rw[h4];exact hc
def g?_of_touch {t:Trace} {a:Touch} (h:touchAt t i=some a):i<t.size:=by
 obtain⟨op,h1,_⟩:=gH h;exact lt_size_of_getElem? h1
def Co.left (h:Co A kn own B t) (hc:c<B) (h1:x1.act=.send c s) (g1:x1.g=j) (h2:x2.act=.recv c s 0) (h3:x3.act=.sendDone c s) (h4:x4.act=.recvDone c s) (g4:x4.g=0):
 Co (λg=>A g/\g≠j) kn own B (t++#[x1,x2,x3,x4]):=by
 have mM:=h.comm hc h1 h2 h3 h4;refine mM.drop λi a hi hg=>?_
 have av:i<t.size:=by
  rcases gv hi with hi|⟨op,cj,_,hb⟩
  .exact g?_of_touch hi
  .exfalso;have:op=x1\/op=x2\/op=x3\/op=x4:=by simpa using cj
   rcases this with rfl|rfl|rfl|rfl
   .rw[h1]at hb;cases hb
   .rw[h2]at hb;cases hb
   .rw[h3]at hb;cases hb
   .rw[h4]at hb;cases hb
 rw[g?_old av]at hg;exact handed (u:=#[x1,x2,x3,x4]) mM.calm (k:=0) (m:=3) (x:=x1) (y:=x4) rfl g1 h1 rfl g4 h4 hg
abbrev Zd (i:Nat) (fi:FuncId) (pi:String) (j:Nat) (fj:FuncId) (pj:String) (c s:Nat):Array MemOp:=
 #[{g:=i,fn:=fi,pos:=pi,act:=.send c s},{g:=j,fn:=fj,pos:=pj,act:=.recv c s 0},{g:=i,fn:=fi,pos:=pi,act:=.sendDone c s},{g:=j,fn:=fj,pos:=pj,act:=.recvDone c s}]
def Co.S8 (h:Co A kn own B t) (hc:c<B) (i:Nat) (fi:FuncId) (pi:String) (j:Nat) (fj:FuncId) (pj:String) (s:Nat):Co A kn own B (t++Zd i fi pi j fj pj c s):=
 h.comm hc rfl rfl rfl rfl
def Co.S9 (h:Co A kn own B t) (hc:c<B) (i:Nat) (fi:FuncId) (pi:String) (fj:FuncId) (pj:String) (s:Nat):Co (λg=>A g/\g≠i) kn own B (t++Zd i fi pi 0 fj pj c s):=
 h.left hc rfl rfl rfl rfl rfl rfl
def iq (w:nq) {cap:Nat} {buf:Array fu} {cl:Bool} (h:r≠c):(w.setChan c cap buf cl s q tm).heap[r]?=w.heap[r]?:=by
 show(w.heap.setIfInBounds c _)[r]?=_;exact aO _ h
def dv (w:nq) (c cap s q:Nat) (buf:Array fu) (cl tm:Bool):(w.setChan c cap buf cl s q tm).heap.size=w.heap.size:=by
 show(w.heap.setIfInBounds c _).size=_;simp
def gI {w:nq} (h:c<w.heap.size):isChan (w.setChan c 0 #[] false s s tm) c:=⟨s,tm,by
 show(w.heap.setIfInBounds c _)[c]?=_;exact ba _ h⟩
def E0 {a:Array Goroutine} {x y:Goroutine} (rZ:j≠i) (hi:i<a.size) (hj:j<a.size):
 ((a.setIfInBounds j x).setIfInBounds i y)[i]?=some y/\((a.setIfInBounds j x).setIfInBounds i y)[j]?=some x/\(∀k,k≠i->k≠j->((a.setIfInBounds j x).setIfInBounds i y)[k]?=a[k]?)/\((a.setIfInBounds j x).setIfInBounds i y).size=a.size:=by
 refine⟨ba _ (by simpa using hi),?_,λk h1 h2=>?_,by simp⟩
 .rw[aO _ rZ];exact ba _ hj
 .rw[aO _ h1,aO _ h2]
def Inv.xQ (h:Inv G b S gs w t) (hk:i<b+S.k) (hm:S.mp=false) (hc:isChan w c) (hi:gs[i]?=some g) (gU:0<i) (cu:stepG P false g w=.comm g #[scase c v z] true .send w es):
 runT P (crowd gs w sl) i=(.next (crowd (gs.setIfInBounds i (parked g #[scase c v z] .send)) w sl),MemOp.ofEvents i g.frame.fn g.frame.place es):=by
 have EY:(i==0)=false:=by simp;omega
 obtain⟨s,tm,hc⟩:=hc;refine crowd_waits hi (by rw[EY];exact cu) λcc wI=>?_;have:cc=scase c v z:=by simpa using wI
 rw[this];refine ways_send_none hc (zAM _) (partners_nil λj x hx=>?_);rcases getElem?_stand _ _ _ _ hx with⟨_,rfl⟩|⟨_,hx⟩
 .exact offersAt_ph _ _
 .exact h.sq hx (λe=>by rw[hm]at e;cases e.2) c
def Inv.xR (h:Inv G b S gs w t) (hm:S.mp=true) {k:Nat} (PS:gs[0]?=some (parked S.mn.g #[rcase G.co z1,rcase G.cd z2] .select)) (hk:(c=G.co/\k=0)\/(c=G.cd/\k=1))
 (hc:w.heap[c]?=some (.chan 0 #[] false s s tm)) (hi:gs[i]?=some g) (gU:0<i) (cu:stepG P false g w=.comm g #[scase c v z] true .send w es):
 runT P (crowd gs w sl) i=(.next (crowd ((gs.setIfInBounds 0 (S.mn.g.finishComm P #[rcase G.co z1,rcase G.cd z2] .select k v true)).setIfInBounds i (Conc.served g undef)) (w.setChan c 0 #[] false (s+1) (s+1) tm) sl),
  MemOp.ofEvents i g.frame.fn g.frame.place es++#[{g:=i,fn:=g.frame.fn,pos:=g.frame.place,act:=.send c s},{g:=0,fn:=S.mn.g.frame.fn,pos:=S.mn.g.frame.place,act:=.recv c s 0},
   {g:=i,fn:=g.frame.fn,pos:=g.frame.place,act:=.sendDone c s},{g:=0,fn:=S.mn.g.frame.fn,pos:=S.mn.g.frame.place,act:=.recvDone c s}]):=by
 have EY:(i==0)=false:=by simp;omega
 have kC:∃z',(#[rcase G.co z1,rcase G.cd z2]:Array CommCase)[k]?=some (rcase c z'):=by
  rcases hk with⟨rfl,rfl⟩|⟨rfl,rfl⟩
  .exact⟨z1,rfl⟩
  .exact⟨z2,rfl⟩
 obtain⟨z',kC⟩:=kC
 have hu:∀(m:Nat) (cc:CommCase),m≠k->(#[rcase G.co z1,rcase G.cd z2]:Array CommCase)[m]?=some cc->cc.chan≠ .chan (some c):=by
  intro m cc iS wI;have bC:=G.ne;match m with
  |0=>
   have:cc=rcase G.co z1:=by simpa using wI.symm
   rw[this];rcases hk with⟨rfl,rfl⟩|⟨rfl,rfl⟩
   .exact absurd rfl iS
   .simp[rcase,bC]
  |1=>
   have:cc=rcase G.cd z2:=by simpa using wI.symm
   rw[this];rcases hk with⟨rfl,rfl⟩|⟨rfl,rfl⟩
   .simp[rcase,Ne.symm bC]
   .exact absurd rfl iS
  |m+2=>simp at wI
 have Jt:offersAt (parked S.mn.g #[rcase G.co z1,rcase G.cd z2] .select) c false=[k]:=offersAt_parked_at kC hu
 have hp:partners (gs.setIfInBounds i ph) c false=[(0,k)]:=by
  rw[partners_one (stand_get (by omega) PS) λj x hj hx=>?_,Jt]
  .rfl
  .rcases getElem?_stand _ _ _ _ hx with⟨_,rfl⟩|⟨_,hx⟩
   .exact offersAt_ph _ _
   .exact h.sq hx (λe=>hj e.1) c
 exact crowd_send_meets_sel hi (by rw[EY];exact cu) hc (by omega) PS kC hp
def Inv.E6 (h:Inv G b S gs w t) (hb:b<=i) (hk:i<b+S.k) (hs:S.dh i=.run):pV G b S gs w sl t i:=by
 have Jr:=h.wk i hb hk;have hn:S.dh i≠ .left:=by rw[hs];simp
 obtain⟨a1,a2,a3,a4,a5,a6,a7⟩:=Jr.1 hn;have c:=Jr.2;rw[hs]at c;obtain⟨c1,c2⟩:=c;have bq:=h.b1;have hi:S.act b i:=.inr ⟨hb,hk,hn⟩;have cr:i<gs.size:=(zAD.1 c1).1;have ST:WT P G.co G.cd (S.x i).vm (S.x i).s (S.x i).kn (S.x i).own (S.x i).g (S.x i).w:=a1;cases ST with
 |mk ok go U0=>
  rcases ok w a6 with⟨g2,w3,es,h1,h2,h3⟩|⟨z,es,h1,h2,h3⟩|⟨v,z,es,q,h1,h2,h3,h4⟩
  .exact h.LW hb hk hs h1 h2 h3
  .cases hm:S.mp with
   |false=>
    have bp:=h.xQ (sl:=sl) hk hm h.B6 c1 (by omega) h2;refine h.Zb hb hk hs hm (.inl rfl) h3 bp ⟨λ_=>⟨a1,a2,a3,a4,a5,a6,a7⟩,?_⟩;show(match upd S.dh i .po i with|.run=>_|.po=>_|.pd=>_|.left=>_);rw[upd_same];exact⟨h1,w,z,es,a6,Env.refl _ _,h2,ba _ cr⟩
   |true=>
    obtain⟨m1,m2,m3,m4⟩:=h.main;rw[hm]at m4;obtain⟨k1,k2,⟨wm,z1,z2,Zc,n1,n2,n3,n4⟩,_⟩:=m4;obtain⟨s,tm,G9⟩:=h.B6;have bp:=h.xR (sl:=sl) hm n4 (.inl ⟨rfl,rfl⟩) G9 c1 (by omega) h2;obtain⟨q1,q2,q3,q4⟩:=E0 (a:=gs) (i:=i) (j:=0) (x:=S.mn.g.finishComm P #[rcase G.co z1,rcase G.cd z2] .select (0:Nat) (S.x i).vm true) (y:=Conc.served (S.x i).g undef) (by omega) cr (by omega);have av:=h.B6.lt
    obtain⟨S',r1,r2⟩:=h.Hk (w':=w.setChan G.co 0 #[] false (s+1) (s+1) tm) hb hk (.inl hs) h1 a6 (Env.refl _ _) h2 k2 k1 n1 n2 n3 (λr hr=>iq w hr) ⟨dv ..,rfl,rfl⟩ (gI av) q2 q1 (λk e1 e2=>q3 k e2 e1) q4
     (by rw[dv];exact(h.co.Y8 hi (es:=es) (by rw[a4,a5];exact h3) (S.x i).g.frame.fn (S.x i).g.frame.place).S8 av i (S.x i).g.frame.fn (S.x i).g.frame.place 0 S.mn.g.frame.fn S.mn.g.frame.place s)
    exact⟨S',_,_,_,_,bp,r1,by rw[<-zFN];exact r2⟩
  .cases hm:S.mp with
   |false=>
    have bp:=h.xQ (sl:=sl) hk hm h.B7 c1 (by omega) h2;refine h.Zb hb hk hs hm (.inr rfl) h3 bp ⟨λ_=>⟨a1,a2,a3,a4,a5,a6,a7⟩,?_⟩;show(match upd S.dh i .pd i with|.run=>_|.po=>_|.pd=>_|.left=>_);rw[upd_same];exact⟨h1,v,z,q,ba _ cr,h4⟩
   |true=>
    obtain⟨m1,m2,m3,m4⟩:=h.main;rw[hm]at m4;obtain⟨k1,k2,⟨wm,z1,z2,Zc,n1,n2,n3,n4⟩,_⟩:=m4;obtain⟨s,tm,G9⟩:=h.B7;have bp:=h.xR (sl:=sl) hm n4 (.inr ⟨rfl,rfl⟩) G9 c1 (by omega) h2;obtain⟨q1,q2,q3,q4⟩:=E0 (a:=gs) (i:=i) (j:=0) (x:=S.mn.g.finishComm P #[rcase G.co z1,rcase G.cd z2] .select (1:Nat) v true) (y:=Conc.served (S.x i).g undef) (by omega) cr (by omega);have av:=h.B7.lt
    obtain⟨S',r1,r2⟩:=h.Cb (w':=w.setChan G.cd 0 #[] false (s+1) (s+1) tm) (v:=v) hb hk hn h1 h4 k2 k1 n1 n2 n3 (λr hr=>iq w hr) ⟨dv ..,rfl,rfl⟩ (gI av) q2 q1 (λk e1 e2=>q3 k e2 e1) q4
     (by rw[dv];exact(h.co.Y8 hi (es:=es) (by rw[a4,a5];exact h3) (S.x i).g.frame.fn (S.x i).g.frame.place).S9 av i (S.x i).g.frame.fn (S.x i).g.frame.place S.mn.g.frame.fn S.mn.g.frame.place s)
    exact⟨S',_,_,_,_,bp,r1,by rw[<-zFN];exact r2⟩
def Inv.E9 (h:Inv G b S gs w t) (hm:S.mp=false) (S6:S.k=G.T) (hn:S.n<G.T) (Ca:G.Bm S.n S.M S.mn.kn S.mn.own S.mn.g w):pV G b S gs w sl t 0:=by
 obtain⟨m1,m2,m3,m4⟩:=h.main;rw[hm]at m4;obtain⟨c1,c2,c3,c4⟩:=m4;have h0:S.act b 0:=.inl rfl;have hb:=h.b1;obtain⟨es,z1,z2,l1,l2,_,_⟩:=G.sel _ _ _ _ _ _ hn Ca;have l1':stepG P (0==0) S.mn.g w=.comm S.mn.g #[rcase G.co z1,rcase G.cd z2] true .select w es:=l1;have cr:0<gs.size:=(zAD.1 c1).1;obtain⟨so,tmo,U6⟩:=h.B6;obtain⟨sd,tmd,U7⟩:=h.B7;have U8:=h.co.Y8 h0 (es:=es) (by rw[m1,m2];exact l2) S.mn.g.frame.fn S.mn.g.frame.place
 have mem:∀c j k,(j,k)∈partners (gs.setIfInBounds 0 ph) c true->k=0/\j≠0/\b<=j/\j<b+S.k/\
  ((c=G.co/\S.dh j=.po/\∃z,gs[j]?=some (parked (S.x j).g #[scase G.co (S.x j).vm z] .send))\/(c=G.cd/\S.dh j=.pd/\∃v z,gs[j]?=some (parked (S.x j).g #[scase G.cd v z] .send))):=by
  intro c j k tK;obtain⟨x,hx,hk⟩:=mem_partners.1 tK;rcases getElem?_stand _ _ _ _ hx with⟨_,rfl⟩|⟨hj,hx⟩
  .rw[offersAt_ph]at hk;cases hk
  rcases h.kinds hx with⟨h1,_⟩|⟨e1,e2,_⟩|⟨e1,e2,e3,z,e⟩|⟨e1,e2,e3,v,z,e⟩
  .rw[offersAt_of_not_blocked (λe=>by rcases h1 with h1|h1<;>rw[h1]at e<;>cases e)]at hk;cases hk
  .rw[hm]at e2;cases e2
  .rw[e,offersAt_parked_send]at hk;split at hk
   .rename_i ec;exact⟨by simpa using hk,hj,e1,e2,.inl ⟨ec.symm,e3,z,e▸hx⟩⟩
   .cases hk
  .rw[e,offersAt_parked_send]at hk;split at hk
   .rename_i ec;exact⟨by simpa using hk,hj,e1,e2,.inr ⟨ec.symm,e3,v,z,e▸hx⟩⟩
   .cases hk
 have zL:∀(m:Nat) (cc:CommCase),(#[rcase G.co z1,rcase G.cd z2]:Array CommCase)[m]?=some cc->(m=0/\cc=rcase G.co z1)\/(m=1/\cc=rcase G.cd z2):=by
  intro m cc wI;match m with
  |0=>exact .inl ⟨rfl,by simpa using wI.symm⟩
  |1=>exact .inr ⟨rfl,by simpa using wI.symm⟩
  |m+2=>simp at wI
 by_cases LX:partners (gs.setIfInBounds 0 ph) G.co true=[]/\partners (gs.setIfInBounds 0 ph) G.cd true=[]
 ·
  have bp:=crowd_waits (P:=P) (sl:=sl) c1 l1' λcc wI=>by
   have:cc=rcase G.co z1\/cc=rcase G.cd z2:=by simpa using wI
   rcases this with rfl|rfl
   .exact ways_recv_none U6 LX.1
   .exact ways_recv_none U7 LX.2
  refine⟨{S with mp:=true},_,w,sl,_,bp,?_,?_⟩
  .refine .right _ (.right _ (.left _ _ ?_));show Prod.Lex _ _ (S.mn,0) (S.mn,if S.mp=true then 0 else 1);rw[hm];exact .right _ Nat.zero_lt_one
  .refine⟨hb,by simpa using h.size,h.kT,U8,h.B6,h.B7,h.Jq,λj x hj zo hx=>?_,λj hj tK=>?_,?_,h.cnt,h.LV,h.marks,h.early⟩
   .rw[aO _ (by omega)]at hx;exact h.old j x hj zo hx
   .exact(h.wk j hj tK).other rfl rfl rfl rfl rfl (aO _ (by omega)) λ_=>Env.refl _ _
   .refine⟨m1,m2,m3,S6,hn,⟨w,z1,z2,es,Ca,Env.refl _ _,l1,ba _ cr⟩,λi hi PU=>?_⟩;have PU:i<b+S.k:=PU;have hw:=(h.wk i hi PU).2;refine⟨λe=>?_,λe=>?_⟩
    .have e:S.dh i=.po:=e;rw[e]at hw;obtain⟨_,w1,z,es1,_,_,_,hg⟩:=hw;have:(i,0)∈partners (gs.setIfInBounds 0 ph) G.co true:=mem_partners.2 ⟨_,stand_get (by omega) hg,by rw[offersAt_parked_send];simp⟩;rw[LX.1]at this;cases this
    .have e:S.dh i=.pd:=e;rw[e]at hw;obtain⟨_,v,z,q,hg,_⟩:=hw;have:(i,0)∈partners (gs.setIfInBounds 0 ph) G.cd true:=mem_partners.2 ⟨_,stand_get (by omega) hg,by rw[offersAt_parked_send];simp⟩;rw[LX.2]at this;cases this
 ·
  obtain⟨m,c,z,s,r,tm,j,gj,vj,zj,LS,d,k1,k2,k3,k4,bp⟩:=nU (P:=P) (sl:=sl) c1 l1' (λm cc wI=>by
   rcases zL m cc wI with⟨_,rfl⟩|⟨_,rfl⟩
   .refine⟨_,_,_,_,_,rfl,U6,λj k tK=>?_⟩;obtain⟨e1,e2,_,_,⟨_,_,z,e⟩|⟨e,_⟩⟩:=mem _ j k tK
    .exact⟨e1,e2,_,_,_,_,e⟩
    .exact absurd e G.ne
   .refine⟨_,_,_,_,_,rfl,U7,λj k tK=>?_⟩;obtain⟨e1,e2,_,_,⟨e,_⟩|⟨_,_,v,z,e⟩⟩:=mem _ j k tK
    .exact absurd e.symm G.ne
    .exact⟨e1,e2,_,_,_,_,e⟩) (by
   by_cases h1:partners (gs.setIfInBounds 0 ph) G.co true=[]
   .exact⟨1,_,_,rfl,λe=>LX ⟨h1,e⟩⟩
   .exact⟨0,_,_,rfl,h1⟩)
  have Ze:j<gs.size:=(zAD.1 k4).1;have U9:=h.kinds k4
  have same:∀{g:Goroutine} {cs:Array CommCase} {sh:CommShape},parked gj #[scase c vj zj] LS=parked g cs sh->gj.frame=g.frame/\#[scase c vj zj]=cs/\LS=sh/\Conc.served gj undef=Conc.served g undef:=by
   intro g cs sh e;obtain⟨f1,f2,f3,f4,f5⟩:=gj;obtain⟨g1,g2,g3,g4,g5⟩:=g;simp only[parked,Goroutine.mk.injEq,zAA,zAH,zCK]at e;obtain⟨rfl,rfl,rfl,rfl,rfl⟩:=e;exact⟨rfl,rfl,rfl,rfl⟩
  rcases U9 with⟨e1,_⟩|⟨e1,_⟩|⟨e1,e2,e3,z',e⟩|⟨e1,e2,e3,v,z',e⟩
  .rcases e1 with e1|e1<;>cases e1
  .exact absurd e1 k3
  .obtain⟨f1,f2,f3,f4⟩:=same e;simp only[zCO,zCB,scase,CommCase.mk.injEq,Value.chan.injEq,zAA,zEC]at f2;obtain⟨rfl,rfl,rfl⟩:=f2;subst f3
   have I8:m=0:=by
    rcases zL m _ k1 with⟨e0,_⟩|⟨_,hz⟩
    .exact e0
    .simp only[rcase,CommCase.mk.injEq,Value.chan.injEq,zAA]at hz;exact absurd hz.1 G.ne
   subst I8;have Jr:=(h.wk j e1 e2).2;rw[e3]at Jr;obtain⟨x1,w1,zw,es1,x2,x3,x4,x5⟩:=Jr;rw[U6]at k2;simp only[zAA,Obj.chan.injEq,zCK]at k2;obtain⟨rfl,rfl,rfl⟩:=k2;obtain⟨q1,q2,q3,q4⟩:=E0 (a:=gs) (i:=0) (j:=j) (x:=Conc.served (S.x j).g undef) (y:=S.mn.g.finishComm P #[rcase G.co z1,rcase G.cd z2] .select (0:Nat) (S.x j).vm true) k3 cr Ze;have av:G.co<(w.at d).heap.size:=h.B6.lt
   obtain⟨S',r1,r2⟩:=h.Hk (w':=(w.at d).setChan G.co 0 #[] false (so+1) (so+1) tmo) e1 e2 (.inr e3) x1 x2 x3 x4 hn S6 Ca (Env.refl _ _) l1 (λr hr=>iq (w.at d) hr) ⟨dv ..,rfl,rfl⟩ (gI av) q1 q2 q3 q4
    (by rw[dv];exact U8.S8 av j (S.x j).g.frame.fn (S.x j).g.frame.place 0 S.mn.g.frame.fn S.mn.g.frame.place so)
   refine⟨S',_,_,_,_,bp,r1,?_⟩;rw[<-zFN,finishComm_send,f4,f1];exact r2
  .obtain⟨f1,f2,f3,f4⟩:=same e;simp only[zCO,zCB,scase,CommCase.mk.injEq,Value.chan.injEq,zAA,zEC]at f2;obtain⟨rfl,rfl,rfl⟩:=f2;subst f3
   have I8:m=1:=by
    rcases zL m _ k1 with⟨_,hz⟩|⟨e0,_⟩
    .simp only[rcase,CommCase.mk.injEq,Value.chan.injEq,zAA]at hz;exact absurd hz.1.symm G.ne
    .exact e0
   subst I8;have Jr:=(h.wk j e1 e2).2;rw[e3]at Jr;obtain⟨x1,v2,zw,q,x2,x3⟩:=Jr;rw[U7]at k2;simp only[zAA,Obj.chan.injEq,zCK]at k2;obtain⟨rfl,rfl,rfl⟩:=k2;obtain⟨q1,q2,q3,q4⟩:=E0 (a:=gs) (i:=0) (j:=j) (x:=Conc.served (S.x j).g undef) (y:=S.mn.g.finishComm P #[rcase G.co z1,rcase G.cd z2] .select (1:Nat) vj true) k3 cr Ze;have av:G.cd<(w.at d).heap.size:=h.B7.lt
   obtain⟨S',r1,r2⟩:=h.Cb (w':=(w.at d).setChan G.cd 0 #[] false (sd+1) (sd+1) tmd) (v:=vj) e1 e2 (by rw[e3];simp) x1 x3 hn S6 Ca (Env.refl _ _) l1 (λr hr=>iq (w.at d) hr) ⟨dv ..,rfl,rfl⟩ (gI av) q1 q2 q3 q4
    (by rw[dv];exact U8.S9 av j (S.x j).g.frame.fn (S.x j).g.frame.place S.mn.g.frame.fn S.mn.g.frame.place sd)
   refine⟨S',_,_,_,_,bp,r1,?_⟩;rw[<-zFN,finishComm_send,f4,f1];exact r2
end
section
variable {P:un} {G:jm P} {b:Nat} {S S':St} {gs fH:Array Goroutine} {w w':nq} {t t':Trace} {sl:Option (Nat × Nat)}
def Inv.nT (h:Inv G b S gs w t):S.n<=G.T:=by
 rw[<-h.cnt];have:=sumTo_le (f:=λj=>if S.dh (b+j)=.left then 1 else 0) (c:=1) (j:=G.T) λi _=>by split<;>omega
 omega
def Inv.Zf (h:Inv G b S gs w t):∃(i:Nat) (g:Goroutine),gs[i]?=some g/\g.status=.running:=by
 obtain⟨m1,m2,m3,m4⟩:=h.main;cases hm:S.mp with
 |false=>rw[hm]at m4;exact⟨0,_,m4.1,m4.2.1⟩
 |true=>
  rw[hm]at m4;obtain⟨k1,k2,_,k3⟩:=m4
  have:∃j,j<G.T/\S.dh (b+j)≠ .left:=by
   refine zBK λhn=>?_;have:sumTo G.T (λj=>if S.dh (b+j)=.left then 1 else 0)=G.T:=uF λj hj=>zAF (zBK λhs=>hn ⟨j,hj,hs⟩);rw[h.cnt]at this;omega
  obtain⟨j,hj,hs⟩:=this;obtain⟨n1,n2⟩:=k3 (b+j) (by omega) (by omega);have hw:=(h.wk (b+j) (by omega) (by omega)).2;cases cu:S.dh (b+j)with
  |run=>rw[cu]at hw;exact⟨_,_,hw.1,hw.2⟩
  |po=>exact absurd cu n1
  |pd=>exact absurd cu n2
  |left=>exact absurd cu hs
def lU (G:jm P) (S:St) (w:nq):Prop:=S.k=G.T/\S.n=G.T/\S.mp=false/\G.Out S.M S.mn.kn S.mn.own S.mn.g w
def Inv.zdS (h:Inv G b S gs w t) (hi:gs[i]?=some g) (hr:g.status=.running):lU G S w\/pV G b S gs w sl t i:=by
 have av:i<b+S.k:=by rw[<-h.size];exact(zAD.1 hi).1
 rcases zBY i with rfl|gU
 .obtain⟨m1,m2,m3,m4⟩:=h.main;cases hm:S.mp with
  |true=>
   rw[hm]at m4;obtain⟨_,_,⟨_,_,_,_,_,_,_,k⟩,_⟩:=m4;rw[hi]at k;rw[zAV k]at hr;cases hr
  |false=>
   rw[hm]at m4;obtain⟨c1,c2,c3,c4⟩:=m4
   have LY:S.mn.At S.mn.kn S.mn.own S.mn.g w->lU G S w\/pV G b S gs w sl t 0:=by
    intro wB;rw[c4]at wB;unfold St.At at wB;by_cases hk:S.k<G.T
    .rw[zAF hk]at wB;exact .inr (h.Js hm hk wB)
    .rw[zAG hk]at wB;have S6:S.k=G.T:=by have:=h.kT;omega
     by_cases hn:S.n<G.T
     .rw[zAF hn]at wB;exact .inr (h.E9 hm S6 hn wB)
     .rw[zAG hn]at wB;exact .inl ⟨S6,by have:=h.nT;omega,hm,wB⟩
   by_cases hA:S.mn.At S.mn.kn S.mn.own S.mn.g w
   .exact LY hA
   .have c3':jK P S.mn.At S.mn.kn S.mn.own S.mn.g S.mn.w:=c3;cases c3' with
    |mk ok go=>
     rcases ok w m3 with hA|⟨g2,w3,es,h1,h2,h3⟩
     .exact LY hA
     .exact .inr (h.U1 hm hA h1 h2 h3)
 .rcases zCX i b with Hl|Hl
  .exact .inr (h.quit hi hr gU (.inl Hl))
  .have hw:=(h.wk i Hl av).2;cases cu:S.dh i with
   |run=>exact .inr (h.E6 Hl av cu)
   |left=>exact .inr (h.quit hi hr gU (.inr ⟨Hl,cu⟩))
   |po=>
    rw[cu]at hw;obtain⟨_,_,_,_,_,_,_,k⟩:=hw;rw[hi]at k;rw[zAV k]at hr;cases hr
   |pd=>
    rw[cu]at hw;obtain⟨_,_,_,_,k,_⟩:=hw;rw[hi]at k;rw[zAV k]at hr;cases hr
def Inv.step (h:Inv G b S gs w t):lU G S w\/∃S' fH w' iz ops,stepT P (crowd gs w sl)=(.next (crowd fH w' iz),ops)/\Mu.lt P G.co G.cd (b+G.T) (S'.mu G b) (S.mu G b)/\Inv G b S' fH w' (t++ops):=by
 obtain⟨i,g,d,iz,hi,hg,cu⟩:=crowd_pick (P:=P) (w:=w) (sl:=sl) h.awake h.Zf;rcases(h.at d).zdS (sl:=iz) hi hg with⟨h1,h2,h3,h4⟩|⟨S',fH,w',PV,ops,h1,h2,h3⟩
 .exact .inl ⟨h1,h2,h3,G.LU _ _ _ _ _ _ h4⟩
 .exact .inr ⟨S',fH,w',PV,ops,cu.trans h1,h2,h3⟩
def Inv.toEnd (h:Inv G b S gs w t):∃N S' fH w' iz t',runNT P N (crowd gs w sl) t=(.next (crowd fH w' iz),t')/\Inv G b S' fH w' t'/\lU G S' w':=by
 have key:∀μ:Mu,∀(S:St) (gs:Array Goroutine) (w:nq) (t:Trace) (sl:Option (Nat×Nat)),S.mu G b=μ->Inv G b S gs w t->∃N S' fH w' iz t',runNT P N (crowd gs w sl) t=(.next (crowd fH w' iz),t')/\Inv G b S' fH w' t'/\lU G S' w':=by
  intro μ;induction((Mu.wf P G.co G.cd (b+G.T)).apply μ)with
  |intro μ _ ih=>
   intro S gs w t sl hμ h;rcases h.step (sl:=sl)with ho|⟨S',fH,w',iz,ops,h1,h2,h3⟩
   .exact⟨0,S,gs,w,sl,t,rfl,h,ho⟩
   .obtain⟨N,S2,SY,w2,PV,t2,k1,k2,k3⟩:=ih _ (hμ▸h2) S' fH w' (t++ops) iz rfl h3;exact⟨N+1,S2,SY,w2,PV,t2,by simp only[runNT,h1];exact k1,k2,k3⟩
 exact key _ S gs w t sl rfl h
def Inv.Zg (h:Inv G b S gs w t) (ho:lU G S w):gs[0]?=some S.mn.g/\S.mn.g.status=.running/\(∀i g,0<i->gs[i]?=some g->QuitsIn P (S.q i) g)/\Co (λg=>g=0) (λ_=>S.mn.kn) (λ_=>S.mn.own) w.heap.size t/\∀m,m<G.T->S.M m=G.E m:=by
 obtain⟨k1,k2,k3,k4⟩:=ho;obtain⟨m1,m2,m3,m4⟩:=h.main;rw[k3]at m4;have hb:=h.b1
 have all:∀j,j<G.T->S.dh (b+j)=.left:=by
  intro j hj;refine zBK λhn=>?_;have e:=sumTo_upd (λa=>S.dh (b+a)) pU.left (λs=>if s=pU.left then 1 else 0) hj;rw[h.cnt,k2]at e;simp only[zAG hn,zAF]at e;have le:=sumTo_le (f:=λa=>if upd (λa=>S.dh (b+a)) j pU.left a=pU.left then 1 else 0) (c:=1) (j:=G.T) λi _=>by split<;>omega
  omega
 have lf:∀i,b<=i->i<b+S.k->S.dh i=.left:=λi h1 h2=>by
  have:=all (i-b) (by omega);rwa [show b+(i-b)=i by omega]at this
 refine⟨m4.1,m4.2.1,λi g hi hg=>?_,?_,λm hm=>?_⟩
 .rcases zCX i b with Hl|Hl
  .exact h.old i g hi Hl hg
  .have av:i<b+S.k:=by rw[<-h.size];exact(zAD.1 hg).1
   have hw:=(h.wk i Hl av).2;rw[lf i Hl av]at hw;obtain⟨_,g',h1,h2⟩:=hw;rw[hg]at h1;exact zAV h1▸h2
 .have e:∀g,S.act b g↔g=0:=λg=>by
   constructor
   .rintro(e|⟨e1,e2,e3⟩)
    .exact e
    .exact absurd (lf g e1 e2) e3
   .exact .inl
  have hc:=h.co.rm (A':=λg=>g=0) λg=>(e g).symm;refine hc.shrink (λg hg r hr=>?_) (λg hg r hr=>?_) λg hg r hr=>?_
  .rw[hg,m1];exact hr
  .rw[hg,m2];exact hr
  .have:=hc.sub 0 rfl r (by rw[m2];exact hr);rwa [m1]at this
 .have hw:=(h.wk (b+m) (by omega) (by omega)).2;rw[all m hm]at hw;have:=h.marks m;rw[hw.1]at this;cases hE:G.E m with
  |true=>exact this.2 ⟨by omega,hE,rfl⟩
  |false=>
   cases hM:S.M m with
   |false=>rfl
   |true=>have:=(this.1 hM).2.1;rw[hE]at this;cases this
def Inv.begin (G:jm P) {kn own:Nat->Prop} {g:Goroutine} {q:Nat->Nat} (hg:gs[0]?=some g) (hr:g.status=.running) (hq:∀i x,0<i->gs[i]?=some x->QuitsIn P (q i) x)
 (mM:Co (λg=>g=0) (λ_=>kn) (λ_=>own) w.heap.size t) (ho:isChan w G.co) (hd:isChan w G.cd) (iP:¬kn G.co) (Jh:¬kn G.cd) (hs:jK P (G.EX 0) kn own g w):
 Inv G gs.size {k:=0,n:=0,M:=λ_=>false,kn:=λ_=>kn,own:=λ_=>own,dh:=λ_=>.run,x:=λ_=>⟨default,true,kn,own,g,w⟩,q:=q,mp:=false,mn:=⟨G.EX 0,kn,own,g,w⟩} gs w t:=by
 have cr:0<gs.size:=(zAD.1 hg).1;refine⟨cr,rfl,zAM _,?_,ho,hd,λi _=>⟨iP,Jh⟩,λi x hi _ hx=>hq i x hi hx,λi h1 h2=>?_,?_,?_,λ_ _=>rfl,λm=>?_,λ_=>⟨rfl,λ_=>rfl⟩⟩
 .refine mM.rm λg=>?_;show(g=0\/(gs.size<=g/\g<gs.size+0/\_))↔g=0;constructor
  .rintro(e|⟨e1,e2,_⟩)
   .exact e
   .omega
  .exact .inl
 .exfalso;have h2:i<gs.size+0:=h2;omega
 .refine⟨rfl,rfl,Env.refl _ _,hg,hr,hs,?_⟩;show G.EX 0=if 0<G.T then G.EX 0 else _
  rw[zAF G.pos]
 .show sumTo G.T (λj=>if pU.run=pU.left then 1 else 0)=0;have:=sumTo_le (f:=λ_=>if pU.run=pU.left then 1 else 0) (c:=0) (j:=G.T) λi _=>by simp
  simpa using this
 .show false=true↔(m<0/\_)
  simp
end
end Go.aC
