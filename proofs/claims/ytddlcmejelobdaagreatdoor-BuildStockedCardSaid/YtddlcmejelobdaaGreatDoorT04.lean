/- A part. Conditions: none. -/
import Derived.Test.YtddlcmejelobdaaGreatDoorT03
import Derived.Conc.CrowdSel
import Derived.Conc.Script
set_option linter.all false
namespace Go.aq
open Go.Conc
variable {kn own:Nat->Prop} {w2:World} {α:Type}
abbrev mL:=(Nat->Prop)->(Nat->Prop)->Goroutine->World->Prop
inductive WT (P:Program) (co cd:Nat) (vm:Value):Bool->mL
 |mk {s:Bool} {kn own:Nat->Prop} {g:Goroutine} {w:World}
   (ok:∀w2,Env kn w w2->
     (∃g2 w3 es,stepG P false g w2=.go g2 w3 es/\g2.status=.running/\Fair kn own w2 w3 es)\/
     (∃z es,s=true/\stepG P false g w2=.comm g #[scase co vm z] true .send w2 es/\∀e∈es,Dk kn own e)\/
     (∃v z es q,s=false/\stepG P false g w2=.comm g #[scase cd v z] true .send w2 es/\(∀e∈es,Dk kn own e)/\QuitsIn P q (Conc.served g undef)))
   (go:∀w2 g2 w3 es,Env kn w w2->stepG P false g w2=.go g2 w3 es->WT P co cd vm s (aE kn w2 w3) (aE own w2 w3) g2 w3)
   (PB:∀w2 z es,Env kn w w2->stepG P false g w2=.comm g #[scase co vm z] true .send w2 es->WT P co cd vm false kn own (Conc.served g undef) w2):WT P co cd vm s kn own g w
structure jy where
 vm:Value
 s:Bool
 kn:Nat->Prop
 own:Nat->Prop
 g:Goroutine
 w:World
def jy.ok (P:Program) (co cd:Nat) (x:jy):Prop:=WT P co cd x.vm x.s x.kn x.own x.g x.w
def jy.kid (P:Program) (co:Nat) (y x:jy):Prop:=
 y.vm=x.vm/\∃w2,Env x.kn x.w w2/\
  ((∃es,stepG P false x.g w2=.go y.g y.w es/\y.kn=aE x.kn w2 y.w/\y.own=aE x.own w2 y.w/\y.s=x.s)\/
   (∃z es,stepG P false x.g w2=.comm x.g #[scase co x.vm z] true .send w2 es/\y.g=Conc.served x.g undef/\y.w=w2/\y.kn=x.kn/\y.own=x.own/\y.s=false))
def jy.lt (P:Program) (co cd:Nat) (y x:jy):Prop:=x.ok P co cd/\y.kid P co x
theorem jy.wf (P:Program) (co cd:Nat):WellFounded (jy.lt P co cd):=by
 refine⟨fun x=>?_⟩;by_cases h:x.ok P co cd
 .obtain⟨vm,s,kn,own,g,w⟩:=x;change WT P co cd vm s kn own g w at h;induction h with
  |mk ok go PB ih1 ih2=>
   refine⟨_,fun y hy=>?_⟩;obtain⟨_,e,w2,he,⟨es,h1,h2,h3,h4⟩|⟨z,es,h1,h2,h3,h4,h5,h6⟩⟩:=hy
   .obtain⟨yv,ys,yk,yo,yg,yw⟩:=y;simp only at e h1 h2 h3 h4 he;subst e;subst h2;subst h3;subst h4;exact ih1 w2 yg yw es he h1
   .obtain⟨yv,ys,yk,yo,yg,yw⟩:=y;simp only at e h1 h2 h3 h4 h5 h6 he;subst e;subst h2;subst h3;subst h4;subst h5;subst h6;exact ih2 yw z es he h1
 .exact⟨_,fun y hy=>absurd hy.1 h⟩
theorem WT.env {P:Program} {co cd:Nat} {vm:Value} {s:Bool} {g:Goroutine} {w:World} (h:WT P co cd vm s kn own g w) (he:Env kn w w2):WT P co cd vm s kn own g w2:=by
 cases h with
 |mk ok go PB=>exact .mk (fun w3 h3=>ok w3 (he.trans h3)) (fun w3 g2 w4 es h3=>go w3 g2 w4 es (he.trans h3)) (fun w3 z es h3=>PB w3 z es (he.trans h3))
inductive iR (P:Program) (At:mL):mL
 |mk {kn own:Nat->Prop} {g:Goroutine} {w:World}
   (ok:∀w2,Env kn w w2->At kn own g w2\/∃g2 w3 es,stepG P true g w2=.go g2 w3 es/\g2.status=.running/\Fair kn own w2 w3 es)
   (go:∀w2 g2 w3 es,Env kn w w2->¬At kn own g w2->stepG P true g w2=.go g2 w3 es->iR P At (aE kn w2 w3) (aE own w2 w3) g2 w3):iR P At kn own g w
structure kU where
 At:mL
 kn:Nat->Prop
 own:Nat->Prop
 g:Goroutine
 w:World
def kU.ok (P:Program) (x:kU):Prop:=iR P x.At x.kn x.own x.g x.w
def kU.lt (P:Program) (y x:kU):Prop:=
 x.ok P/\y.At=x.At/\∃w2 es,Env x.kn x.w w2/\¬x.At x.kn x.own x.g w2/\stepG P true x.g w2=.go y.g y.w es/\y.kn=aE x.kn w2 y.w/\y.own=aE x.own w2 y.w
theorem kU.wf (P:Program):WellFounded (kU.lt P):=by
 refine⟨fun x=>?_⟩;by_cases h:x.ok P
 .obtain⟨At,kn,own,g,w⟩:=x;change iR P At kn own g w at h;induction h with
  |mk ok go ih=>
   refine⟨_,fun y hy=>?_⟩;obtain⟨_,e,w2,es,he,hn,h1,h2,h3⟩:=hy;obtain⟨yA,yk,yo,yg,yw⟩:=y;simp only at e h1 h2 h3 he hn;subst e;subst h2;subst h3;exact ih w2 yg yw es he hn h1
 .exact⟨_,fun y hy=>absurd hy.1 h⟩
theorem iR.env {P:Program} {At:mL} {g:Goroutine} {w:World} (h:iR P At kn own g w) (he:Env kn w w2):iR P At kn own g w2:=by
 cases h with
 |mk ok go=>exact .mk (fun w3 h3=>ok w3 (he.trans h3)) (fun w3 g2 w4 es h3=>go w3 g2 w4 es (he.trans h3))
theorem iR.here {P:Program} {At:mL} {g:Goroutine} {w:World} (h:∀w2,Env kn w w2->At kn own g w2):iR P At kn own g w:=
 .mk (fun w2 he=>.inl (h w2 he)) fun w2 _ _ _ he hn=>absurd (h w2 he) hn
def RV (R:α->α->Prop) (n:Nat) (v' v:Nat->α):Prop:=∃i,i<n/\R (v' i) (v i)/\∀j,j≠i->v' j=v j
theorem RV.wf {R:α->α->Prop} (h:WellFounded R):∀n,WellFounded (RV R n):=by
 intro n;induction n with
 |zero=>exact⟨fun v=>⟨_,fun v' ⟨i,hi,_⟩=>absurd hi (Nat.not_lt_zero i)⟩⟩
 |succ n ih=>
  have key:∀x,∀v:Nat->α,v n=x->Acc (RV R (n+1)) v:=by
   intro x;induction(h.apply x)with
   |intro x _ Tj=>
    intro v;induction(ih.apply v)with
    |intro v _ ihv=>
     intro hv;refine⟨_,fun v' np=>?_⟩;obtain⟨i,hi,h1,h2⟩:=np;by_cases e:i=n
     .subst e;exact Tj (v' i) (hv▸h1) v' rfl
     .exact ihv v' ⟨i,by omega,h1,h2⟩ ((h2 n (Ne.symm e)).trans hv)
  exact⟨fun v=>key _ v rfl⟩
abbrev Mu:=Nat×((Nat->jy×Nat)×((kU×Nat)×Nat))
def Mu.lt (P:Program) (co cd n:Nat):Mu->Mu->Prop:=
 Prod.Lex (·<·) (Prod.Lex (RV (Prod.Lex (jy.lt P co cd) (·<·)) n) (Prod.Lex (Prod.Lex (kU.lt P) (·<·)) (·<·)))
theorem rK {β:Type} {r:α->α->Prop} {s:β->β->Prop} (hr:WellFounded r) (hs:WellFounded s):WellFounded (Prod.Lex r s):=⟨fun x=>Prod.lexAccessible (hr.apply x.1) (fun b=>hs.apply b) x.2⟩
theorem vU:WellFounded (fun a b:Nat=>a<b):=Nat.lt_wfRel.wf
theorem Mu.wf (P:Program) (co cd n:Nat):WellFounded (Mu.lt P co cd n):=
 rK vU (rK (RV.wf (rK (jy.wf P co cd) vU) n) (rK (rK (kU.wf P) vU) vU))
theorem rL (P:Program) (q:Question) (n:Nat) (hn:0<n) (hq:∀x,q.cut x<n) (f:Nat->Sem α) (w:World):∃a d,a<n/\((choose q:Sem Nat)>>=f).run P w=(f a).run P (w.at d):=by
 by_cases hf:q.forced=true
 .exact⟨0,w.drawn,hn,by simp[choose,bind,Sem.bind,Sem.run,hf,World.at]⟩
 .exact⟨q.cut (w.tape w.drawn q),w.drawn+1,hq _,by simp[choose,bind,Sem.bind,Sem.run,hf,World.at]⟩
theorem Ho (P:Program) (ready:List (Nat×CommCase×List Way)) (bC:ready≠ []) (bG:∀x∈ready,x.2.2≠ []) (w:World):
 ∃k c ws YN d,(k,c,ws)∈ready/\YN∈ws/\(do
  let a<-(choose (.select ready.length):Sem Nat)
  let(k,c,ws):=ready.getD a (0,default,[])
  let b<-choose (.extern "which waiting goroutine is the partner" ws.length)
  pure (k,c,ws.getD b .closed):Sem (Nat×CommCase×Way)).run P w=.ok (k,c,YN) (w.at d):=by
 have hl:0<ready.length:=List.length_pos_iff.2 bC
 obtain⟨a,d,ha,e⟩:=rL P (.select ready.length) ready.length hl (fun x=>by
  simp only[Question.cut]
  exact Nat.mod_lt _ hl) (fun a=>do
   let(k,c,ws):=ready.getD a (0,default,[])
   let b<-choose (.extern "which waiting goroutine is the partner" ws.length)
   pure (k,c,ws.getD b .closed)) w
 obtain⟨⟨k,c,ws⟩,hx⟩:∃x,ready[a]?=some x:=⟨ready[a],List.getElem?_eq_getElem ha⟩
 have hg:ready.getD a (0,default,[])=(k,c,ws):=by rw[List.getD_eq_getElem?_getD,hx];rfl
 have dY:=List.mem_of_getElem? hx;have TJ:0<ws.length:=List.length_pos_iff.2 (bG _ dY)
 obtain⟨b,d2,hb,e2⟩:=rL P (.extern "which waiting goroutine is the partner" ws.length) ws.length TJ (fun x=>by
  simp only[Question.cut];split
  .omega
  .exact Nat.mod_lt _ TJ) (fun b=>(pure (k,c,ws.getD b .closed):Sem (Nat×CommCase×Way))) (w.at d)
 refine⟨k,c,ws,ws[b],d2,dY,List.getElem_mem hb,?_⟩;rw[e];simp only[hg];rw[e2];simp only[pure,Sem.run,List.getD_eq_getElem?_getD,List.getElem?_eq_getElem hb,Option.getD_some];rfl
section
variable {P:Program} {gs:Array Goroutine} {w w₁:World} {sl:Option (Nat × Nat)} {i:Nat} {g g₂:Goroutine} {es:Array Event} {cases:Array CommCase} {shape:CommShape} {blocking:Bool}
theorem ul {c:Nat} {z:Value} {s r:Nat} {tm:Bool} (hc:w₁.heap[c]?=some (.chan 0 #[] false s r tm)) (gs:Array Goroutine):
 ways w₁ gs (rcase c z)=(partners gs c true).map fun(h,k)=>.partner h k:=by
 simp only[ways,rcase,hc,Array.size_empty,Nat.lt_irrefl,if_false];cases partners gs c true with
 |nil=>rfl
 |cons p ps=>rfl
theorem ma (hi:gs[i]?=some g) (h:stepG P (i==0) g w=.comm g₂ cases blocking shape w₁ es)
 (oK:∀(m:Nat) (cc:CommCase),cases[m]?=some cc->∃c z s r tm,cc=rcase c z/\w₁.heap[c]?=some (.chan 0 #[] false s r tm)/\
   ∀j k,(j,k)∈partners (gs.setIfInBounds i ph) c true->k=0/\j≠i/\∃gj vj zj Hq,gs[j]?=some (parked gj #[scase c vj zj] Hq))
 (bC:∃(m:Nat) (c:Nat) (z:Value),cases[m]?=some (rcase c z)/\partners (gs.setIfInBounds i ph) c true≠ []):
 ∃(m c:Nat) (z:Value) (s r:Nat) (tm:Bool) (j:Nat) (gj:Goroutine) (vj zj:Value) (Hq:CommShape) (d:Nat),cases[m]?=some (rcase c z)/\w₁.heap[c]?=some (.chan 0 #[] false s r tm)/\j≠i/\gs[j]?=some (parked gj #[scase c vj zj] Hq)/\
  runT P (crowd gs w sl) i=(.next (crowd ((gs.setIfInBounds j (gj.finishComm P #[scase c vj zj] Hq 0 undef false)).setIfInBounds i (g₂.finishComm P cases shape m vj true)) ((w₁.at d).setChan c 0 #[] false (s+1) (r+1) tm) sl),
   MemOp.ofEvents i g.frame.fn g.frame.place es++#[{g:=j,fn:=gj.frame.fn,pos:=gj.frame.place,act:=.send c s},{g:=i,fn:=g₂.frame.fn,pos:=g₂.frame.place,act:=.recv c r 0},
    {g:=j,fn:=gj.frame.fn,pos:=gj.frame.place,act:=.sendDone c s},{g:=i,fn:=g₂.frame.fn,pos:=g₂.frame.place,act:=.recvDone c r}]):=by
 let ready:=(cases.zipIdx.toList.map fun(c,k)=>(k,c,ways w₁ (gs.setIfInBounds i ph) c)).filter fun(_,_,ws)=>!ws.isEmpty
 have dY:∀k c ws,(k,c,ws)∈ready->cases[k]?=some c/\ws=ways w₁ (gs.setIfInBounds i ph) c/\ws≠ []:=by
  intro k c ws hx;simp only[ready,List.mem_filter,List.mem_map,Prod.exists,Prod.mk.injEq]at hx;obtain⟨⟨c',k',hz,rfl,rfl,rfl⟩,hx⟩:=hx;exact⟨mem_of_zipIdx hz,rfl,fun e=>by rw[e]at hx;simp at hx⟩
 have Hr:ready≠ []:=by
  obtain⟨m,c,z,hm,hp⟩:=bC;obtain⟨c',z',s,r,tm,e,hc,_⟩:=oK m _ hm;simp only[rcase,CommCase.mk.injEq,Value.chan.injEq,Option.some.injEq,true_and]at e;obtain⟨rfl,rfl⟩:=e
  have:(m,rcase c z,ways w₁ (gs.setIfInBounds i ph) (rcase c z))∈ready:=by
   simp only[ready,List.mem_filter,List.mem_map,Prod.exists,Prod.mk.injEq];refine⟨⟨rcase c z,m,?_,rfl,rfl,rfl⟩,?_⟩
   .rw[Array.mem_toList_iff,Array.mem_zipIdx_iff_getElem?];exact hm
   .rw[ul hc];cases hpp:partners (gs.setIfInBounds i ph) c true with
    |nil=>exact absurd hpp hp
    |cons p ps=>rfl
  intro e;rw[e]at this;cases this
 have YO:cases.any (illMade w₁)=false:=any_ill fun cc tz=>by
  obtain⟨m,hm,rfl⟩:=Array.mem_iff_getElem.1 tz;obtain⟨c,z,s,r,tm,e,hc,_⟩:=oK m _ (Array.getElem?_eq_getElem hm);rw[e];exact made_recv z hc
 obtain⟨k,cc,ws,YN,d,h1,h2,h3⟩:=Ho P ready Hr (fun x hx=>(dY x.1 x.2.1 x.2.2 hx).2.2) w₁;obtain⟨hk,rfl,_⟩:=dY _ _ _ h1;obtain⟨c,z,s,r,tm,rfl,hc,Bc⟩:=oK k cc hk;rw[ul hc]at h2;obtain⟨⟨j,k0⟩,hj,rfl⟩:=List.mem_map.1 h2;obtain⟨rfl,qH,gj,vj,zj,Hq,hgj⟩:=Bc j k0 hj;refine⟨k,c,z,s,r,tm,j,gj,vj,zj,Hq,d,hk,hc,qH,hgj,?_⟩;have xE:=stand_get (i:=i) qH hgj;have hfp:=finishPartner_at P (gs.setIfInBounds i ph) xE (cs:=#[scase c vj zj]) (sh:=Hq) rfl 0 undef;have NS:(gs.setIfInBounds i ph).getD j default=parked gj #[scase c vj zj] Hq:=by rw[Array.getD_eq_getD_getElem?,xE];rfl
 have hov:offeredValue (gs.setIfInBounds i ph) j 0=vj:=by simp[offeredValue,xE,parked,scase]
 have NT:ready.isEmpty=false:=by
  cases hr:ready with
  |nil=>exact absurd hr Hr
  |cons x xs=>rfl
 rw[runT_crowd_comm hi h];unfold communicate;rw[if_neg]
 .dsimp only;split
  .rename_i he;exact absurd (show ready.isEmpty=true from he) (by rw[NT];exact Bool.false_ne_true)
  .split
   .rename_i heq;have e:=heq.symm.trans h3;cases e
   .rename_i k' c' zfI w' heq;have e:=heq.symm.trans h3;simp only[Result.ok.injEq,Prod.mk.injEq]at e;obtain⟨⟨rfl,rfl,rfl⟩,rfl⟩:=e;have YP:(w₁.at d).heap[c]?=some (.chan 0 #[] false s r tm):=hc;simp[rcase,YP,crowd,hfp,NS,hov,set_stand2,finishComm_parked,scase,parked,World.setChan];rfl
 .rw[Bool.not_eq_true];exact YO
end
end Go.aq
namespace Go.aq
open Go.Conc
open Go.ConcN (upd upd_same upd_ne sumTo sumTo_upd sumTo_congr le_sumTo)
variable {A:Nat->Prop} {es:Array Event} {g2 x:Goroutine} {i j:Nat} {kn own:Nat->Nat->Prop} {w1 w3:World} {α:Type}
structure iw (P:Program)where
 T:Nat
 co:Nat
 cd:Nat
 E:Nat->Bool
 vm:Nat->Value
 Bd:Nat->mL
 xF:Nat->(Nat->Bool)->mL
 Out:(Nat->Bool)->mL
 ne:co≠cd
 pos:0<T
 spw:∀k kn own g w,k<T->Bd k kn own g w->∃g2 child es K k0 o0,stepG P true g w=.spawn g2 child w es/\(∀e∈es,Dk kn own e)/\g2.status=.running/\child.status=.running/\
  (∀r,K r->kn r)/\(∀r,k0 r->kn r)/\(∀r,o0 r->own r)/\(∀r,o0 r->k0 r)/\(∀r,o0 r->¬K r)/\WT P co cd (vm k) (E k) K (fun _=>False) child w/\
  iR P (if k+1<T then Bd (k+1)else xF 0 fun _=>false) k0 o0 g2 w
 WZ:∀n M kn own g w,n<T->xF n M kn own g w->∃es z z',stepG P true g w=.comm g #[rcase co z,rcase cd z'] true .select w es/\(∀e∈es,Dk kn own e)/\
  (∀w2 m,Env kn w w2->m<T->E m=true->iR P (xF n fun a=>if a=m then true else M a) kn own (g.finishComm P #[rcase co z,rcase cd z'] .select (0:Nat) (vm m) true) w2)/\
  (∀w2 v,Env kn w w2->(n+1=T->∀m,m<T->M m=E m)->iR P (if n+1<T then xF (n+1) M else Out M) kn own (g.finishComm P #[rcase co z,rcase cd z'] .select (1:Nat) v true) w2)
 Ht:∀M kn own g w d,Out M kn own g (World.at w d)->Out M kn own g w
inductive nL
 |run|po|pd|left
 deriving DecidableEq
structure St where
 k:Nat
 n:Nat
 M:Nat->Bool
 kn:Nat->Nat->Prop
 own:Nat->Nat->Prop
 cQ:Nat->nL
 x:Nat->jy
 q:Nat->Nat
 mp:Bool
 mn:kU
section
variable {P:Program} (G:iw P) (b:Nat)
def St.act (S:St) (i:Nat):Prop:=i=0\/(b<=i/\i<b+S.k/\S.cQ i≠ .left)
def St.At (S:St):mL:=if S.k<G.T then G.Bd S.k else if S.n<G.T then G.xF S.n S.M else G.Out S.M
def St.Wk (S:St) (gs:Array Goroutine) (w:World) (i:Nat):Prop:=
 (S.cQ i≠ .left->(S.x i).ok P G.co G.cd/\(S.x i).vm=G.vm (i-b)/\((S.x i).s=true->G.E (i-b)=true)/\S.kn i=(S.x i).kn/\S.own i=(S.x i).own/\Env (S.x i).kn (S.x i).w w/\S.q i=0)/\
 match S.cQ i with
 |.run=>gs[i]?=some (S.x i).g/\(S.x i).g.status=.running
 |.po=>(S.x i).s=true/\∃w1 z es,Env (S.x i).kn (S.x i).w w1/\Env (S.x i).kn w1 w/\stepG P false (S.x i).g w1=.comm (S.x i).g #[scase G.co (S.x i).vm z] true .send w1 es/\
    gs[i]?=some (parked (S.x i).g #[scase G.co (S.x i).vm z] .send)
 |.pd=>(S.x i).s=false/\∃v z q,gs[i]?=some (parked (S.x i).g #[scase G.cd v z] .send)/\QuitsIn P q (Conc.served (S.x i).g undef)
 |.left=>(S.x i).s=false/\∃g,gs[i]?=some g/\QuitsIn P (S.q i) g
def St.Mn (S:St) (gs:Array Goroutine) (w:World):Prop:=
 S.kn 0=S.mn.kn/\S.own 0=S.mn.own/\Env S.mn.kn S.mn.w w/\
 match S.mp with
 |true=>S.k=G.T/\S.n<G.T/\(∃w1 z z' es,G.xF S.n S.M S.mn.kn S.mn.own S.mn.g w1/\Env S.mn.kn w1 w/\stepG P true S.mn.g w1=.comm S.mn.g #[rcase G.co z,rcase G.cd z'] true .select w1 es/\
   gs[0]?=some (parked S.mn.g #[rcase G.co z,rcase G.cd z'] .select))/\∀i,b<=i->i<b+S.k->S.cQ i≠ .po/\S.cQ i≠ .pd
 |false=>gs[0]?=some S.mn.g/\S.mn.g.status=.running/\S.mn.ok P/\S.mn.At=S.At G
def isChan (w:World) (c:Nat):Prop:=∃s tm,w.heap[c]?=some (.chan 0 #[] false s s tm)
structure Inv (S:St) (gs:Array Goroutine) (w:World) (t:Trace):Prop where
 b1:0<b
 size:gs.size=b+S.k
 kT:S.k<=G.T
 co:Co (S.act b) S.kn S.own w.heap.size t
 yr:isChan w G.co
 yt:isChan w G.cd
 EY:∀i,S.act b i->¬S.kn i G.co/\¬S.kn i G.cd
 old:∀i g,0<i->i<b->gs[i]?=some g->QuitsIn P (S.q i) g
 wk:∀i,b<=i->i<b+S.k->S.Wk G b gs w i
 main:S.Mn G b gs w
 cnt:sumTo G.T (fun j=>if S.cQ (b+j)=.left then 1 else 0)=S.n
 Hu:∀i,b+S.k<=i->S.cQ i=.run
 marks:∀m,S.M m=true↔(m<S.k/\G.E m=true/\(S.x (b+m)).s=false)
 early:S.k<G.T->S.n=0/\∀m,S.M m=false
def St.mu (S:St):Mu:=
 (2*(G.T-S.k)+(S.k-S.n),(fun i=>(S.x i,if S.cQ i=.run then 1 else 0)),((S.mn,if S.mp then 0 else 1),sumTo (b+G.T) S.q))
end
theorem isChan.lt {w:World} {c:Nat} (h:isChan w c):c<w.heap.size:=by obtain⟨s,tm,h⟩:=h;exact(Array.getElem?_eq_some_iff.1 h).1
theorem iy (kn:Nat->Prop) (w:World) (d:Nat):Env kn w (w.at d):=⟨Nat.le_refl _,fun _ _=>rfl,rfl,rfl⟩
section
variable {P:Program} {G:iw P} {b:Nat} {S:St} {gs:Array Goroutine} {w:World} {t:Trace}
theorem Inv.at (h:Inv G b S gs w t) (d:Nat):Inv G b S gs (w.at d) t where
 b1:=h.b1
 size:=h.size
 kT:=h.kT
 co:=h.co
 yr:=h.yr
 yt:=h.yt
 EY:=h.EY
 old:=h.old
 cnt:=h.cnt
 Hu:=h.Hu
 marks:=h.marks
 early:=h.early
 wk:=fun i h1 h2=>by
   have hw:=h.wk i h1 h2;refine⟨fun hn=>?_,?_⟩
   .obtain⟨a1,a2,a3,a4,a5,a6,a7⟩:=hw.1 hn;exact⟨a1,a2,a3,a4,a5,a6.trans (iy _ _ _),a7⟩
   .have h2:=hw.2;cases hs:S.cQ i with
    |run=>rw[hs]at h2;exact h2
    |po=>
     rw[hs]at h2;obtain⟨c1,w1,z,es,c2,c3,c4,c5⟩:=h2;exact⟨c1,w1,z,es,c2,c3.trans (iy _ _ _),c4,c5⟩
    |pd=>rw[hs]at h2;exact h2
    |left=>rw[hs]at h2;exact h2
 main:=by
  obtain⟨a1,a2,a3,a4⟩:=h.main;refine⟨a1,a2,a3.trans (iy _ _ _),?_⟩;cases hm:S.mp with
  |true=>
   rw[hm]at a4;obtain⟨b1,b2,⟨w1,z,z',es,c1,c2,c3,c4⟩,b3⟩:=a4;exact⟨b1,b2,⟨w1,z,z',es,c1,c2.trans (iy _ _ _),c3,c4⟩,b3⟩
  |false=>rw[hm]at a4;exact a4
theorem Inv.vV (h:Inv G b S gs w t) (hi:S.act b i) (hf:Fair (S.kn i) (S.own i) w w1 es) (hj:S.act b j) (bC:j≠i):Env (S.kn j) w w1:=
 ⟨hf.size,fun r hr=>hf.others r (h.co.bound j hj r hr) fun ho=>h.co.dj i j hi hj (Ne.symm bC) r ho hr,hf.os,hf.out⟩
theorem Inv.yu (h:Inv G b S gs w t) (hi:S.act b i) (hf:Fair (S.kn i) (S.own i) w w1 es):isChan w1 G.co/\isChan w1 G.cd:=by
 obtain⟨n1,n2⟩:=h.EY i hi;obtain⟨s,tm,h1⟩:=h.yr;obtain⟨s',bA,h2⟩:=h.yt;exact⟨⟨s,tm,(hf.others _ h.yr.lt fun x=>n1 (h.co.sub i hi _ x)).trans h1⟩,⟨s',bA,(hf.others _ h.yt.lt fun x=>n2 (h.co.sub i hi _ x)).trans h2⟩⟩
theorem St.Wk.other {S S':St} {gs eE:Array Goroutine} {w w':World} (h:S.Wk G b gs w j) (e1:S'.cQ j=S.cQ j) (e2:S'.x j=S.x j) (e3:S'.q j=S.q j) (e4:S'.kn j=S.kn j) (e5:S'.own j=S.own j)
 (e6:eE[j]?=gs[j]?) (he:S.cQ j≠ .left->Env (S.kn j) w w'):S'.Wk G b eE w' j:=by
 refine⟨fun hn=>?_,?_⟩
 .rw[e1]at hn;obtain⟨a1,a2,a3,a4,a5,a6,a7⟩:=h.1 hn;rw[e2,e3,e4,e5];exact⟨a1,a2,a3,a4,a5,a6.trans (a4▸he hn),a7⟩
 .have h2:=h.2;rw[e1,e2,e3,e6];cases hs:S.cQ j with
  |run=>rw[hs]at h2;exact h2
  |po=>
   rw[hs]at h2;obtain⟨c1,w1,z,es,c2,c3,c4,c5⟩:=h2;have hn:S.cQ j≠ .left:=by rw[hs];simp
   exact⟨c1,w1,z,es,c2,c3.trans ((h.1 hn).2.2.2.1▸he hn),c4,c5⟩
  |pd=>rw[hs]at h2;exact h2
  |left=>rw[hs]at h2;exact h2
theorem Inv.kinds (h:Inv G b S gs w t) (hj:gs[j]?=some x):
 ((x.status=.running\/x.status=.finished)/\¬(j=0/\S.mp=true))\/(j=0/\S.mp=true/\∃z z',x=parked S.mn.g #[rcase G.co z,rcase G.cd z'] .select)\/
 (b<=j/\j<b+S.k/\S.cQ j=.po/\∃z,x=parked (S.x j).g #[scase G.co (S.x j).vm z] .send)\/(b<=j/\j<b+S.k/\S.cQ j=.pd/\∃v z,x=parked (S.x j).g #[scase G.cd v z] .send):=by
 have ar:j<b+S.k:=by rw[<-h.size];exact(Array.getElem?_eq_some_iff.1 hj).1
 have hb:=h.b1;rcases Nat.eq_zero_or_pos j with rfl|ig
 .obtain⟨_,_,_,a4⟩:=h.main;cases hm:S.mp with
  |true=>
   rw[hm]at a4;obtain⟨_,_,⟨w1,z,z',es,_,_,_,c4⟩,_⟩:=a4;rw[hj]at c4;exact .inr (.inl ⟨rfl,rfl,z,z',Option.some.inj c4⟩)
  |false=>
   rw[hm]at a4;rw[hj]at a4;exact .inl ⟨.inl (Option.some.inj a4.1▸a4.2.1),by simp⟩
 .rcases Nat.lt_or_ge j b with vD|vD
  .exact .inl ⟨(h.old j x ig vD hj).status,fun e=>by omega⟩
  .have hw:=(h.wk j vD ar).2;cases hs:S.cQ j with
   |run=>rw[hs]at hw;rw[hj]at hw;exact .inl ⟨.inl (Option.some.inj hw.1▸hw.2),fun e=>by omega⟩
   |po=>
    rw[hs]at hw;obtain⟨_,w1,z,es,_,_,_,c5⟩:=hw;rw[hj]at c5;exact .inr (.inr (.inl ⟨vD,ar,rfl,z,Option.some.inj c5⟩))
   |pd=>
    rw[hs]at hw;obtain⟨_,v,z,q,c5,_⟩:=hw;rw[hj]at c5;exact .inr (.inr (.inr ⟨vD,ar,rfl,v,z,Option.some.inj c5⟩))
   |left=>
    rw[hs]at hw;obtain⟨_,g,c1,c2⟩:=hw;rw[hj]at c1;exact .inl ⟨Option.some.inj c1▸c2.status,fun e=>by omega⟩
theorem Inv.awake (h:Inv G b S gs w t):∀g∈gs,Conc.awake g:=by
 intro g hg;obtain⟨j,hj,rfl⟩:=Array.mem_iff_getElem.1 hg;rcases h.kinds (Array.getElem?_eq_getElem hj)with⟨h1,_⟩|⟨_,_,z,z',e⟩|⟨_,_,_,z,e⟩|⟨_,_,_,v,z,e⟩
 .exact awake_of (h1.imp id .inr)
 .rw[e];exact awake_of (.inr (.inl rfl))
 .rw[e];exact awake_of (.inr (.inl rfl))
 .rw[e];exact awake_of (.inr (.inl rfl))
theorem yx {f:α->α} {a:Array α} (h:∀(j:Nat) (x:α),a[j]?=some x->f x=x):a.map f=a:=by
 apply Array.ext_getElem?;intro j;rw[Array.getElem?_map];cases hj:a[j]? with
 |none=>rfl
 |some x=>rw[Option.map_some,h j x hj]
theorem Inv.woken (h:Inv G b S gs w t) {w':World} (ho:isChan w' G.co) (hd:isChan w' G.cd) (g g':Goroutine):gs.map (Conc.woken P g g' w')=gs:=by
 obtain⟨s,tm,ho⟩:=ho;obtain⟨s',bA,hd⟩:=hd;refine yx fun j x hj=>?_;unfold Conc.woken;split
 .rcases h.kinds hj with⟨h1,_⟩|⟨_,_,z,z',e⟩|⟨_,_,_,z,e⟩|⟨_,_,_,v,z,e⟩
  .exact again_running _ h1
  .rw[e];refine again_all_open fun cc tz=>?_;have:cc=rcase G.co z\/cc=rcase G.cd z':=by simpa using tz
   rcases this with rfl|rfl
   .exact⟨_,_,_,_,_,_,_,rfl,ho⟩
   .exact⟨_,_,_,_,_,_,_,rfl,hd⟩
  .rw[e];exact again_send_open ho
  .rw[e];exact again_send_open hd
 .rfl
theorem Inv.pK (h:Inv G b S gs w t) (hj:gs[j]?=some x) (h0:¬(j=0/\S.mp=true)) (c:Nat):offersAt x c false=[]:=by
 rcases h.kinds hj with⟨h1,_⟩|⟨e1,e2,_⟩|⟨_,_,_,z,e⟩|⟨_,_,_,v,z,e⟩
 .exact offersAt_of_not_blocked (fun e=>by rcases h1 with h1|h1<;>rw[h1]at e<;>cases e) _ _
 .exact absurd ⟨e1,e2⟩ h0
 .rw[e];exact offersAt_parked_send' ..
 .rw[e];exact offersAt_parked_send' ..
end
theorem aL (kn:Nat->Prop) (w:World):aE kn w w=kn:=by
 funext r;apply propext;unfold aE new;constructor
 .rintro(h|⟨h1,h2⟩)
  .exact h
  .omega
 .exact .inl
theorem aV (f:Nat->α) (i:Nat):upd f i (f i)=f:=by
 funext a;by_cases e:a=i
 .subst e;rw[upd_same]
 .rw[upd_ne _ _ e]
theorem Fair.refl {kn own:Nat->Prop} {w:World} (h:∀e∈es,Dk kn own e):Fair kn own w w es:=
 ⟨Nat.le_refl _,fun _ _ _=>rfl,rfl,rfl,rfl,Nat.le_refl _,by rw[aL,aL];exact h⟩
theorem Co.TK {w:World} {t:Trace} (h:Co A kn own w.heap.size t) (hi:A i) (he:∀e∈es,Dk (kn i) (own i) e) (fn:FuncId) (pos:String):
 Co A kn own w.heap.size (t++MemOp.ofEvents i fn pos es):=by
 have:=h.step hi rfl (Fair.refl he) fn pos;rwa [aL,aL,aV,aV]at this
theorem Co.oX {A':Nat->Prop} {B:Nat} {t:Trace} (h:Co A kn own B t) (e:∀g,A' g↔A g):Co A' kn own B t:=by
 have:A'=A:=funext fun g=>propext (e g);rw[this];exact h
section
variable {P:Program} {G:iw P} {b:Nat} {S S':St} {gs eE:Array Goroutine} {w w':World} {t:Trace} {sl:Option (Nat × Nat)}
def nM (G:iw P) (b:Nat) (S:St) (gs:Array Goroutine) (w:World) (sl:Option (Nat×Nat)) (t:Trace) (i:Nat):Prop:=
 ∃S' eE w' gI ops,runT P (crowd gs w sl) i=(.next (crowd eE w' gI),ops)/\Mu.lt P G.co G.cd (b+G.T) (S'.mu G b) (S.mu G b)/\Inv G b S' eE w' (t++ops)
theorem St.Mn.other (h:S.Mn G b gs w) (e1:S'.mn=S.mn) (e2:S'.mp=S.mp) (e3:S'.kn 0=S.kn 0) (e4:S'.own 0=S.own 0) (e5:S'.k=S.k) (e6:S'.n=S.n) (e7:S'.M=S.M) (hg:eE[0]?=gs[0]?) (he:Env (S.kn 0) w w')
 (bM:S.mp=true->∀i,b<=i->i<b+S.k->S'.cQ i≠ .po/\S'.cQ i≠ .pd):S'.Mn G b eE w':=by
 obtain⟨a1,a2,a3,a4⟩:=h;rw[a1]at he;refine⟨by rw[e3,e1];exact a1,by rw[e4,e1];exact a2,by rw[e1];exact a3.trans he,?_⟩;have tg:S'.At G=S.At G:=by unfold St.At;rw[e5,e6,e7]
 rw[e2];cases hm:S.mp with
 |true=>
  rw[hm]at a4;obtain⟨b1,b2,⟨w1,z,z',es,c1,c2,c3,c4⟩,b3⟩:=a4;refine⟨by rw[e5];exact b1,by rw[e6];exact b2,⟨w1,z,z',es,by rw[e6,e7,e1];exact c1,by rw[e1];exact c2.trans he,by rw[e1];exact c3,by rw[e1,hg];exact c4⟩,?_⟩;rw[e5];exact bM hm
 |false=>
  rw[hm]at a4;refine⟨by rw[hg,e1];exact a4.1,by rw[e1];exact a4.2.1,by rw[e1];exact a4.2.2.1,by rw[e1,tg];exact a4.2.2.2⟩
theorem aF {a:Array α} (x:α) (h:j≠i):(a.setIfInBounds i x)[j]?=a[j]?:=Array.getElem?_setIfInBounds_ne (Ne.symm h)
theorem aO {a:Array α} (x:α) (h:i<a.size):(a.setIfInBounds i x)[i]?=some x:=by simp[h]
theorem jS {q q':Nat->Nat} {n:Nat} (hi:i<n) (h:q' i<q i) (ho:∀j,j≠i->q' j=q j):sumTo n q'<sumTo n q:=by
 have e:q'=upd q i (q' i):=by
  funext a;by_cases ea:a=i
  .subst ea;rw[upd_same]
  .rw[upd_ne _ _ ea,ho a ea]
 have:=sumTo_upd q (q' i) (fun x=>x) hi;rw[<-e]at this;have this:sumTo n q'+q i=sumTo n q+q' i:=this;omega
theorem Inv.quit (h:Inv G b S gs w t) {g:Goroutine} (hi:gs[i]?=some g) (hr:g.status=.running) (ig:0<i) (hk:i<b\/(b<=i/\S.cQ i=.left)):nM G b S gs w sl t i:=by
 have ar:i<b+S.k:=by rw[<-h.size];exact(Array.getElem?_eq_some_iff.1 hi).1
 have hq:QuitsIn P (S.q i) g:=by
  rcases hk with hk|⟨hk,hs⟩
  .exact h.old i g ig hk hi
  .have:=(h.wk i hk ar).2;rw[hs]at this;obtain⟨_,g1,h1,h2⟩:=this;rw[hi]at h1;exact Option.some.inj h1▸h2
 have NU:¬S.act b i:=by
  rintro(e|⟨e1,e2,e3⟩)
  .omega
  .rcases hk with hk|⟨_,hs⟩
   .omega
   .exact e3 hs
 cases xG:S.q i with
 |zero=>rw[xG]at hq;rw[show g.status=.finished from hq]at hr;cases hr
 |succ n=>
  rw[xG]at hq;rcases hq with hf|⟨_,g',bM,t8⟩
  .rw[hf]at hr;cases hr
  have xH:(i==0)=false:=by simp;omega
  have aX:=runT_crowd_go (P:=P) (w:=w) (sl:=sl) hi (by rw[xH];exact bM w);rw[h.woken h.yr h.yt]at aX;have e0:t++MemOp.ofEvents i g.frame.fn g.frame.place #[]=t:=by simp[MemOp.ofEvents]
  refine⟨{S with q:=upd S.q i n},_,w,sl,_,aX,?_,?_⟩
  .refine .right _ (.right _ (.right _ ?_));refine jS (i:=i) (show i<b+G.T by have:=h.kT;omega) ?_ fun j hj=>upd_ne _ _ hj;show upd S.q i n i<S.q i;rw[upd_same,xG];omega
  .rw[e0];refine⟨h.b1,by simpa using h.size,h.kT,h.co,h.yr,h.yt,h.EY,fun j x hj vD hx=>?_,fun j hj qM=>?_,?_,h.cnt,h.Hu,h.marks,h.early⟩
   .by_cases e:j=i
    .subst e;rw[aO _ (Array.getElem?_eq_some_iff.1 hi).1]at hx;show QuitsIn P (upd S.q j n j) x;rw[upd_same,<-Option.some.inj hx];exact t8
    .rw[aF _ e]at hx;show QuitsIn P (upd S.q i n j) x;rw[upd_ne _ _ e];exact h.old j x hj vD hx
   .by_cases e:j=i
    .subst e
     have hs:S.cQ j=.left:=by
      rcases hk with hk|⟨_,hs⟩
      .omega
      .exact hs
     have:=(h.wk j hj qM).2;rw[hs]at this;refine⟨fun hn=>absurd hs hn,?_⟩;show(match S.cQ j with|.run=>_|.po=>_|.pd=>_|.left=>_);rw[hs];refine⟨this.1,g',aO _ (Array.getElem?_eq_some_iff.1 hi).1,?_⟩;show QuitsIn P (upd S.q j n j) g';rw[upd_same];exact t8
    .exact(h.wk j hj qM).other rfl rfl (upd_ne _ _ e) rfl rfl (aF _ e) fun _=>Env.refl _ _
   .exact h.main.other rfl rfl rfl rfl rfl rfl rfl (aF _ (by omega)) (Env.refl _ _) fun hm=>by
     have:=h.main.2.2.2;rw[hm]at this;exact this.2.2.2
theorem Inv.PC (h:Inv G b S gs w t) (hm:S.mp=false) (tg:¬S.mn.At S.mn.kn S.mn.own S.mn.g w) (bM:stepG P true S.mn.g w=.go g2 w3 es) (hr:g2.status=.running)
 (hf:Fair S.mn.kn S.mn.own w w3 es):nM G b S gs w sl t 0:=by
 obtain⟨a1,a2,a3,a4⟩:=h.main;rw[hm]at a4;obtain⟨c1,c2,c3,c4⟩:=a4;have h0:S.act b 0:=.inl rfl;have hb:=h.b1;have Dm:Fair (S.kn 0) (S.own 0) w w3 es:=by rw[a1,a2];exact hf
 obtain⟨o1,o2⟩:=h.yu h0 Dm;have aX:=runT_crowd_go (P:=P) (w:=w) (sl:=sl) c1 (show stepG P (0==0) S.mn.g w=_ from bM);rw[h.woken o1 o2]at aX;have bQ:0<gs.size:=(Array.getElem?_eq_some_iff.1 c1).1;refine⟨{S with kn:=upd S.kn 0 (aE (S.kn 0) w w3),own:=upd S.own 0 (aE (S.own 0) w w3),mn:=⟨S.mn.At,aE S.mn.kn w w3,aE S.mn.own w w3,g2,w3⟩},_,w3,sl,_,aX,?_,?_⟩
 .refine .right _ (.right _ (.left _ _ ?_));show Prod.Lex _ _ ((⟨S.mn.At,aE S.mn.kn w w3,aE S.mn.own w w3,g2,w3⟩:kU),if S.mp=true then 0 else 1) (S.mn,if S.mp=true then 0 else 1);exact .left _ _ ⟨c3,rfl,w,es,a3,tg,bM,rfl,rfl⟩
 .refine⟨hb,by simpa using h.size,h.kT,h.co.step h0 rfl Dm _ _,o1,o2,fun j hj=>?_,fun j x hj vD hx=>?_,fun j hj qM=>?_,?_,h.cnt,h.Hu,h.marks,h.early⟩
  .obtain⟨n1,n2⟩:=h.EY j hj;have l1:=h.yr.lt;have l2:=h.yt.lt;by_cases e:j=0
   .subst e;show¬upd S.kn 0 (aE (S.kn 0) w w3) 0 _/\¬upd S.kn 0 (aE (S.kn 0) w w3) 0 _;rw[upd_same];exact⟨fun x=>x.elim n1 fun x=>by have:=x.1;omega,fun x=>x.elim n2 fun x=>by have:=x.1;omega⟩
   .show¬upd S.kn 0 _ j _/\¬upd S.kn 0 _ j _;rw[upd_ne _ _ e];exact⟨n1,n2⟩
  .rw[aF _ (by omega)]at hx;exact h.old j x hj vD hx
  .have e:j≠0:=by omega
   exact(h.wk j hj qM).other rfl rfl rfl (upd_ne _ _ e) (upd_ne _ _ e) (aF _ e) fun hn=>h.vV h0 Dm (.inr ⟨hj,qM,hn⟩) e
  .refine⟨?_,?_,Env.refl _ _,?_⟩
   .show upd S.kn 0 (aE (S.kn 0) w w3) 0=aE S.mn.kn w w3;rw[upd_same,a1]
   .show upd S.own 0 (aE (S.own 0) w w3) 0=aE S.mn.own w w3;rw[upd_same,a2]
   .show(match S.mp with|true=>_|false=>_);rw[hm];refine⟨aO _ bQ,hr,?_,c4⟩;have nk:iR P S.mn.At S.mn.kn S.mn.own S.mn.g S.mn.w:=c3;cases nk with
    |mk ok go=>exact go w g2 w3 es a3 tg bM
theorem Inv.Hv (h:Inv G b S gs w t) (hb:b<=i) (hk:i<b+S.k) (hs:S.cQ i=.run) (bM:stepG P false (S.x i).g w=.go g2 w3 es) (hr:g2.status=.running)
 (hf:Fair (S.x i).kn (S.x i).own w w3 es):nM G b S gs w sl t i:=by
 have EZ:=h.wk i hb hk;have hn:S.cQ i≠ .left:=by rw[hs];simp
 obtain⟨a1,a2,a3,a4,a5,a6,a7⟩:=EZ.1 hn;have c:=EZ.2;rw[hs]at c;obtain⟨c1,c2⟩:=c;have hi:S.act b i:=.inr ⟨hb,hk,hn⟩;have bE:=h.b1;have Dm:Fair (S.kn i) (S.own i) w w3 es:=by rw[a4,a5];exact hf
 obtain⟨o1,o2⟩:=h.yu hi Dm;have xH:(i==0)=false:=by simp;omega
 have aX:=runT_crowd_go (P:=P) (w:=w) (sl:=sl) c1 (by rw[xH];exact bM);rw[h.woken o1 o2]at aX;have bQ:i<gs.size:=(Array.getElem?_eq_some_iff.1 c1).1;refine⟨{S with kn:=upd S.kn i (aE (S.kn i) w w3),own:=upd S.own i (aE (S.own i) w w3),x:=upd S.x i ⟨(S.x i).vm,(S.x i).s,aE (S.x i).kn w w3,aE (S.x i).own w w3,g2,w3⟩},_,w3,sl,_,aX,?_,?_⟩
 .refine .right _ (.left _ _ ⟨i,by have:=h.kT;omega,?_,fun j hj=>?_⟩)
  .show Prod.Lex _ _ (upd S.x i _ i,if S.cQ i=nL.run then 1 else 0) (S.x i,if S.cQ i=nL.run then 1 else 0);rw[upd_same];exact .left _ _ ⟨a1,rfl,w,a6,.inl ⟨es,bM,rfl,rfl,rfl⟩⟩
  .show(upd S.x i _ j,_)=(S.x j,_)
   rw[upd_ne _ _ hj]
 .refine⟨bE,by simpa using h.size,h.kT,h.co.step hi rfl Dm _ _,o1,o2,fun j hj=>?_,fun j x hj vD hx=>?_,fun j hj qM=>?_,?_,h.cnt,h.Hu,fun m=>?_,h.early⟩
  .obtain⟨n1,n2⟩:=h.EY j hj;have l1:=h.yr.lt;have l2:=h.yt.lt;by_cases e:j=i
   .subst e;show¬upd S.kn j (aE (S.kn j) w w3) j _/\¬upd S.kn j (aE (S.kn j) w w3) j _;rw[upd_same];exact⟨fun x=>x.elim n1 fun x=>by have:=x.1;omega,fun x=>x.elim n2 fun x=>by have:=x.1;omega⟩
   .show¬upd S.kn i _ j _/\¬upd S.kn i _ j _;rw[upd_ne _ _ e];exact⟨n1,n2⟩
  .rw[aF _ (by omega)]at hx;exact h.old j x hj vD hx
  .by_cases e:j=i
   .subst e;refine⟨fun _=>?_,?_⟩
    .show jy.ok P G.co G.cd (upd S.x j _ j)/\_;simp only[upd_same];have nk:WT P G.co G.cd (S.x j).vm (S.x j).s (S.x j).kn (S.x j).own (S.x j).g (S.x j).w:=a1;refine⟨?_,a2,a3,by rw[a4],by rw[a5],Env.refl _ _,a7⟩;cases nk with
     |mk ok go PB=>exact go w g2 w3 es a6 bM
    .show(match S.cQ j with|.run=>_|.po=>_|.pd=>_|.left=>_);rw[hs];simp only[upd_same];exact⟨aO _ bQ,hr⟩
   .exact(h.wk j hj qM).other rfl (upd_ne _ _ e) rfl (upd_ne _ _ e) (upd_ne _ _ e) (aF _ e) fun hn=>h.vV hi Dm (.inr ⟨hj,qM,hn⟩) e
  .have e:(0:Nat)≠i:=by omega
   exact h.main.other rfl rfl (upd_ne _ _ e) (upd_ne _ _ e) rfl rfl rfl (aF _ e) (h.vV hi Dm (.inl rfl) e) fun hm=>by
    have:=h.main.2.2.2;rw[hm]at this;exact this.2.2.2
  .rw[h.marks m];show _↔_/\_/\(upd S.x i _ (b+m)).s=false;by_cases e:b+m=i
   .rw[<-e,upd_same]
   .rw[upd_ne _ _ e]
end
end Go.aq
namespace Go.aq
open Go.Conc
open Go.ConcN (upd upd_same upd_ne sumTo sumTo_upd sumTo_congr le_sumTo sumTo_le)
variable {A:Nat->Prop} {B c i j q r s:Nat} {TP es:Array Event} {g:Goroutine} {kn own:Nat->Nat->Prop} {tm:Bool} {v z z1 z2:Value} {wm:World} {x1 x2 x3 x4:MemOp}
section
variable {P:Program} {G:iw P} {b:Nat} {S S':St} {gs eE:Array Goroutine} {w w':World} {t t':Trace} {sl:Option (Nat × Nat)}
theorem TM (t u:Trace) (x y:MemOp):t++((u.push x).push y)=(t++u)++#[x,y]:=by
 apply Array.ext';simp
theorem Inv.E0 (h:Inv G b S gs w t) (hm:S.mp=false) (hk:S.k<G.T) (tg:G.Bd S.k S.mn.kn S.mn.own S.mn.g w):nM G b S gs w sl t 0:=by
 obtain⟨a1,a2,a3,a4⟩:=h.main;rw[hm]at a4;obtain⟨c1,c2,c3,c4⟩:=a4;have h0:S.act b 0:=.inl rfl;have hb:=h.b1;obtain⟨Ph,W5⟩:=h.early hk;obtain⟨g2,child,es,K,k0,o0,s1,s2,s3,s4,s5,s6,s7,s8,s9,Lv,s11⟩:=G.spw _ _ _ _ _ hk tg;have aX:=runT_crowd_spawn (P:=P) (w:=w) (sl:=sl) c1 (show stepG P (0==0) S.mn.g w=_ from s1);have bQ:0<gs.size:=(Array.getElem?_eq_some_iff.1 c1).1;have hc:gs.size=b+S.k:=h.size;have oK:S.cQ gs.size=.run:=h.Hu _ (by omega);have PD:=h.co.TK h0 (es:=es) (by rw[a1,a2];exact s2) S.mn.g.frame.fn S.mn.g.frame.place
 have NU:¬S.act b gs.size:=by
  rintro(e|⟨_,e,_⟩)
  .omega
  .omega
 have PE:=PD.spawn h0 (c:=gs.size) (by omega) NU (K:=K) (k0:=k0) (o0:=o0) (by rw[a1];exact s5) (by rw[a1];exact s6) (by rw[a2];exact s7) s8 s9
  (x:={g:=0,fn:=S.mn.g.frame.fn,pos:=S.mn.g.frame.place,act:=.go gs.size}) (y:={g:=gs.size,fn:=child.frame.fn,pos:=S.mn.g.frame.place,act:=.start}) ⟨rfl,rfl⟩ ⟨rfl,rfl⟩
 obtain⟨YQ,YR⟩:=h.EY 0 h0;rw[a1]at YQ YR
 have TN:∀j,j≠0->j<gs.size->((gs.setIfInBounds 0 g2).push child)[j]?=gs[j]?:=fun j hj ar=>by
  rw[Array.getElem?_push];simp only[Array.size_setIfInBounds];rw[if_neg (by omega),aF _ hj]
 refine⟨{S with k:=S.k+1,kn:=upd (upd S.kn 0 k0) gs.size K,own:=upd (upd S.own 0 o0) gs.size fun _=>False,x:=upd S.x gs.size ⟨G.vm S.k,G.E S.k,K,fun _=>False,child,w⟩,q:=upd S.q gs.size 0,mn:=⟨if S.k+1<G.T then G.Bd (S.k+1)else G.xF 0 fun _=>false,k0,o0,g2,w⟩},_,w,sl,_,aX,?_,?_⟩
 .refine .left _ _ ?_;show 2*(G.T-(S.k+1))+(S.k+1-S.n)<2*(G.T-S.k)+(S.k-S.n)
  omega
 .refine⟨hb,by simp[hc];omega,hk,?_,h.yr,h.yt,fun j hj=>?_,fun j x hj vD hx=>?_,fun j hj qM=>?_,?_,h.cnt,fun i hi=>h.Hu i (by show _;have:b+(S.k+1)<=i:=hi;omega),fun m=>?_,fun xA=>⟨Ph,W5⟩⟩
  .rw[TM];refine PE.oX fun g=>?_;show(g=0\/(b<=g/\g<b+(S.k+1)/\S.cQ g≠ .left))↔((g=0\/(b<=g/\g<b+S.k/\S.cQ g≠ .left))\/g=gs.size)
   constructor
   .rintro(e|⟨e1,e2,e3⟩)
    .exact .inl (.inl e)
    .by_cases e:g=gs.size
     .exact .inr e
     .exact .inl (.inr ⟨e1,by omega,e3⟩)
   .rintro((e|⟨e1,e2,e3⟩)|e)
    .exact .inl e
    .exact .inr ⟨e1,by omega,e3⟩
    .rw[e];exact .inr ⟨by omega,by omega,by rw[oK];simp⟩
  .by_cases e:j=gs.size
   .subst e;show¬upd (upd S.kn 0 k0) gs.size K gs.size _/\¬upd (upd S.kn 0 k0) gs.size K gs.size _;rw[upd_same];exact⟨fun x=>YQ (s5 _ x),fun x=>YR (s5 _ x)⟩
   .show¬upd (upd S.kn 0 k0) gs.size K j _/\¬upd (upd S.kn 0 k0) gs.size K j _;rw[upd_ne _ _ e];by_cases e0:j=0
    .subst e0;rw[upd_same];exact⟨fun x=>YQ (s6 _ x),fun x=>YR (s6 _ x)⟩
    .rw[upd_ne _ _ e0];refine h.EY j ?_;rcases hj with hj|⟨hj1,qN,YS⟩
     .exact absurd hj e0
     .exact .inr ⟨hj1,by have:j<b+(S.k+1):=qN;omega,YS⟩
  .rw[TN j (by omega) (by omega)]at hx;show QuitsIn P (upd S.q gs.size 0 j) x;rw[upd_ne _ _ (by omega)];exact h.old j x hj vD hx
  .by_cases e:j=gs.size
   .subst e;refine⟨fun _=>?_,?_⟩
    .simp only[upd_same];exact⟨Lv,by rw[hc];simp,fun x=>by rw[hc];simpa using x,trivial,trivial,Env.refl _ _,trivial⟩
    .show(match S.cQ gs.size with|.run=>_|.po=>_|.pd=>_|.left=>_);rw[oK];simp only[upd_same];refine⟨?_,s4⟩;rw[Array.getElem?_push];simp
   .have YT:j<b+S.k:=by have:j<b+(S.k+1):=qM;omega
    have e0:j≠0:=by omega
    exact(h.wk j hj YT).other rfl (upd_ne _ _ e) (upd_ne _ _ e) (by show upd (upd S.kn 0 k0) gs.size K j=_;rw[upd_ne _ _ e,upd_ne _ _ e0]) (by show upd (upd S.own 0 o0) gs.size _ j=_;rw[upd_ne _ _ e,upd_ne _ _ e0])
     (TN j e0 (by omega)) fun _=>Env.refl _ _
  .have e:(0:Nat)≠gs.size:=by omega
   refine⟨?_,?_,Env.refl _ _,?_⟩
   .show upd (upd S.kn 0 k0) gs.size K 0=k0;rw[upd_ne _ _ e,upd_same]
   .show upd (upd S.own 0 o0) gs.size (fun _=>False) 0=o0;rw[upd_ne _ _ e,upd_same]
   .show(match S.mp with|true=>_|false=>_);rw[hm];refine⟨?_,s3,s11,?_⟩
    .rw[Array.getElem?_push];simp only[Array.size_setIfInBounds];rw[if_neg (by omega)];exact aO _ bQ
    .show(if S.k+1<G.T then G.Bd (S.k+1)else G.xF 0 fun _=>false)=(if S.k+1<G.T then G.Bd (S.k+1)else if S.n<G.T then G.xF S.n S.M else G.Out S.M)
     rw[Ph,if_pos G.pos,show S.M=fun _=>false from funext W5]
  .show S.M m=true↔(m<S.k+1/\G.E m=true/\(upd S.x gs.size ⟨G.vm S.k,G.E S.k,K,fun _=>False,child,w⟩ (b+m)).s=false)
   rw[W5 m];constructor
   .intro x;cases x
   .rintro⟨x1,x2,x3⟩;exfalso;by_cases e:m=S.k
    .subst e;rw[hc,upd_same]at x3;simp only at x3;rw[x2]at x3;cases x3
    .rw[upd_ne _ _ (by omega)]at x3;have:=(h.marks m).2 ⟨by omega,x2,x3⟩;rw[W5 m]at this;cases this
theorem Inv.TO (h:Inv G b S gs w t) (hb:b<=i) (hk:i<b+S.k) (hs:S.cQ i=.run) (hm:S.mp=false) {st:nL} (bM:st=.po\/st=.pd) {g':Goroutine} (TI:∀e∈es,Dk (S.x i).kn (S.x i).own e)
 (aX:runT P (crowd gs w sl) i=(.next (crowd (gs.setIfInBounds i g') w sl),MemOp.ofEvents i (S.x i).g.frame.fn (S.x i).g.frame.place es))
 (EZ:St.Wk G b {S with cQ:=upd S.cQ i st} (gs.setIfInBounds i g') w i):nM G b S gs w sl t i:=by
 have hn:S.cQ i≠ .left:=by rw[hs];simp
 have Az:st≠ .left:=by rcases bM with rfl|rfl<;>simp
 obtain⟨a1,a2,a3,a4,a5,a6,a7⟩:=(h.wk i hb hk).1 hn;have hi:S.act b i:=.inr ⟨hb,hk,hn⟩;have bE:=h.b1
 have nN:∀j,(upd S.cQ i st j=.left↔S.cQ j=.left):=fun j=>by
  by_cases e:j=i
  .subst e;rw[upd_same];exact⟨fun x=>absurd x Az,fun x=>absurd x hn⟩
  .rw[upd_ne _ _ e]
 refine⟨{S with cQ:=upd S.cQ i st},_,w,sl,_,aX,?_,?_⟩
 .refine .right _ (.left _ _ ⟨i,by have:=h.kT;omega,?_,fun j hj=>?_⟩)
  .show Prod.Lex _ _ (S.x i,if upd S.cQ i st i=nL.run then 1 else 0) (S.x i,if S.cQ i=nL.run then 1 else 0);rw[upd_same,hs,if_pos rfl,if_neg (by rcases bM with rfl|rfl<;>simp)];exact .right _ Nat.zero_lt_one
  .show(S.x j,if upd S.cQ i st j=nL.run then 1 else 0)=_;rw[upd_ne _ _ hj]
 .refine⟨bE,by simpa using h.size,h.kT,?_,h.yr,h.yt,fun j hj=>h.EY j ?_,fun j x hj vD hx=>?_,fun j hj qM=>?_,?_,?_,fun j hj=>?_,h.marks,h.early⟩
  .refine(h.co.TK hi (by rw[a4,a5];exact TI) _ _).oX fun g=>?_;show(g=0\/(b<=g/\g<b+S.k/\upd S.cQ i st g≠ .left))↔(g=0\/(b<=g/\g<b+S.k/\S.cQ g≠ .left))
   rw[Ne,nN]
  .rcases hj with hj|⟨h1,h2,h3⟩
   .exact .inl hj
   .exact .inr ⟨h1,h2,fun x=>h3 ((nN j).2 x)⟩
  .rw[aF _ (by omega)]at hx;exact h.old j x hj vD hx
  .by_cases e:j=i
   .subst e;exact EZ
   .exact(h.wk j hj qM).other (upd_ne _ _ e) rfl rfl rfl rfl (aF _ e) fun _=>Env.refl _ _
  .exact h.main.other rfl rfl rfl rfl rfl rfl rfl (aF _ (by omega)) (Env.refl _ _) fun x=>by rw[hm]at x;cases x
  .rw[<-h.cnt];refine sumTo_congr fun j _=>?_;show(if upd S.cQ i st (b+j)=nL.left then 1 else 0)=_;by_cases e:S.cQ (b+j)=.left
   .rw[if_pos ((nN _).2 e),if_pos e]
   .rw[if_neg fun x=>e ((nN _).1 x),if_neg e]
  .show upd S.cQ i st j=.run;have:b+S.k<=j:=hj;rw[upd_ne _ _ (by omega)];exact h.Hu j hj
theorem Inv.Dn (h:Inv G b S gs w t) (hc:c=G.co\/c=G.cd) (hh:∀r,r≠c->w'.heap[r]?=w.heap[r]?) (bQ:w'.heap.size=w.heap.size/\w'.os=w.os/\w'.output=w.output) (hj:S.act b j):Env (S.kn j) w w':=
 ⟨by omega,fun r hr=>hh r fun e=>by
   obtain⟨n1,n2⟩:=h.EY j hj;subst e;rcases hc with rfl|rfl
   .exact n1 hr
   .exact n2 hr,bQ.2.1,bQ.2.2⟩
theorem Inv.Do (h:Inv G b S gs w t) (hb:b<=j) (hk:j<b+S.k) (hs:S.cQ j=.run\/S.cQ j=.po) (qr:(S.x j).s=true) {w1:World} {es1:Array Event} (e1:Env (S.x j).kn (S.x j).w w1) (e2:Env (S.x j).kn w1 w)
 (bK:stepG P false (S.x j).g w1=.comm (S.x j).g #[scase G.co (S.x j).vm z] true .send w1 es1)
 (hn:S.n<G.T) (NV:S.k=G.T) (yy:G.xF S.n S.M S.mn.kn S.mn.own S.mn.g wm) (em:Env S.mn.kn wm w)
 (Be:stepG P true S.mn.g wm=.comm S.mn.g #[rcase G.co z1,rcase G.cd z2] true .select wm TP)
 (hh:∀r,r≠G.co->w'.heap[r]?=w.heap[r]?) (bQ:w'.heap.size=w.heap.size/\w'.os=w.os/\w'.output=w.output) (kV:isChan w' G.co)
 (g0:eE[0]?=some (S.mn.g.finishComm P #[rcase G.co z1,rcase G.cd z2] .select (0:Nat) (S.x j).vm true)) (gj:eE[j]?=some (Conc.served (S.x j).g undef)) (go:∀i,i≠0->i≠j->eE[i]?=gs[i]?) (rM:eE.size=gs.size)
 (PF:Co (S.act b) S.kn S.own w'.heap.size t'):∃S',Mu.lt P G.co G.cd (b+G.T) (S'.mu G b) (S.mu G b)/\Inv G b S' eE w' t':=by
 have GF:S.cQ j≠ .left:=by rcases hs with hs|hs<;>rw[hs]<;>simp
 obtain⟨a1,a2,a3,a4,a5,a6,a7⟩:=(h.wk j hb hk).1 GF;obtain⟨m1,m2,m3,_⟩:=h.main;have bE:=h.b1;have hj:S.act b j:=.inr ⟨hb,hk,GF⟩;have env:∀{i},S.act b i->Env (S.kn i) w w':=fun hi=>h.Dn (.inl rfl) hh bQ hi;obtain⟨es,y,y',l1,l2,l3,_⟩:=G.WZ _ _ _ _ _ _ hn yy;rw[Be]at l1;simp only[GStep.comm.injEq,Array.mk.injEq,List.cons.injEq,rcase,CommCase.mk.injEq,true_and,and_true]at l1;obtain⟨⟨rfl,rfl⟩,rfl⟩:=l1;have hE:=a3 qr;have W6:j-b<G.T:=by omega
 have nN:∀i,(upd S.cQ j .run i=.left↔S.cQ i=.left):=fun i=>by
  by_cases e:i=j
  .subst e;rw[upd_same];exact⟨fun x=>(by cases x),fun x=>absurd x GF⟩
  .rw[upd_ne _ _ e]
 refine⟨{S with M:=fun a=>if a=j-b then true else S.M a,cQ:=upd S.cQ j .run,x:=upd S.x j ⟨(S.x j).vm,false,(S.x j).kn,(S.x j).own,Conc.served (S.x j).g undef,w1⟩,mp:=false,mn:=⟨G.xF S.n fun a=>if a=j-b then true else S.M a,S.mn.kn,S.mn.own,S.mn.g.finishComm P #[rcase G.co z1,rcase G.cd z2] .select (0:Nat) (S.x j).vm true,w'⟩},?_,?_⟩
 .refine .right _ (.left _ _ ⟨j,by omega,?_,fun i hi=>?_⟩)
  .show Prod.Lex _ _ (upd S.x j _ j,_) (S.x j,_);rw[upd_same];exact .left _ _ ⟨a1,rfl,w1,e1,.inr ⟨z,es1,bK,rfl,rfl,rfl,rfl,rfl⟩⟩
  .show(upd S.x j _ i,if upd S.cQ j .run i=nL.run then 1 else 0)=_;rw[upd_ne _ _ hi,upd_ne _ _ hi]
 .refine⟨bE,by rw[rM];exact h.size,h.kT,?_,kV,?_,fun i hi=>h.EY i ?_,fun i x hi Dp hx=>?_,fun i hi Lw=>?_,?_,?_,fun i hi=>?_,fun m=>?_,fun x=>by have:S.k<G.T:=x;omega⟩
  .refine PF.oX fun g=>?_;show(g=0\/(b<=g/\g<b+S.k/\upd S.cQ j .run g≠ .left))↔(g=0\/(b<=g/\g<b+S.k/\S.cQ g≠ .left))
   rw[Ne,nN]
  .obtain⟨s,tm,hc⟩:=h.yt;exact⟨s,tm,(hh _ (Ne.symm G.ne)).trans hc⟩
  .rcases hi with hi|⟨h1,h2,h3⟩
   .exact .inl hi
   .exact .inr ⟨h1,h2,fun x=>h3 ((nN i).2 x)⟩
  .rw[go i (by omega) (by omega)]at hx;exact h.old i x hi Dp hx
  .by_cases e:i=j
   .subst e;refine⟨fun _=>?_,?_⟩
    .simp only[upd_same];refine⟨?_,a2,fun x=>(by cases x),a4,a5,e2.trans (a4▸env hj),a7⟩;have nk:WT P G.co G.cd (S.x i).vm (S.x i).s (S.x i).kn (S.x i).own (S.x i).g (S.x i).w:=a1;cases nk with
     |mk ok go PB=>exact PB w1 z es1 e1 bK
    .show(match upd S.cQ i .run i with|.run=>_|.po=>_|.pd=>_|.left=>_);simp only[upd_same];exact⟨gj,rfl⟩
   .exact(h.wk i hi Lw).other (upd_ne _ _ e) (upd_ne _ _ e) rfl rfl rfl (go i (by omega) e) fun hn=>env (.inr ⟨hi,Lw,hn⟩)
  .refine⟨m1,m2,Env.refl _ _,g0,rfl,?_,?_⟩
   .show iR P _ S.mn.kn S.mn.own _ w';rw[a2];exact l3 w' (j-b) (em.trans (m1▸env (.inl rfl))) W6 hE
   .show G.xF S.n _=(if S.k<G.T then G.Bd S.k else if S.n<G.T then G.xF S.n _ else G.Out _)
    rw[if_neg (by omega),if_pos hn]
  .rw[<-h.cnt];refine sumTo_congr fun i _=>?_;show(if upd S.cQ j .run (b+i)=nL.left then 1 else 0)=_;by_cases e:S.cQ (b+i)=.left
   .rw[if_pos ((nN _).2 e),if_pos e]
   .rw[if_neg fun x=>e ((nN _).1 x),if_neg e]
  .show upd S.cQ j .run i=.run;have:b+S.k<=i:=hi;rw[upd_ne _ _ (by omega)];exact h.Hu i hi
  .show(if m=j-b then true else S.M m)=true↔(m<S.k/\G.E m=true/\(upd S.x j _ (b+m)).s=false)
   by_cases e:m=j-b
   .have e':b+m=j:=by omega
    rw[if_pos e,e',upd_same];exact⟨fun _=>⟨by omega,by rw[e];exact hE,rfl⟩,fun _=>rfl⟩
   .rw[if_neg e,upd_ne _ _ (by omega)];exact h.marks m
theorem Inv.yz (h:Inv G b S gs w t) (hb:b<=j) (hk:j<b+S.k) (hs:S.cQ j≠ .left) (qr:(S.x j).s=false) (hq:QuitsIn P q (Conc.served (S.x j).g undef))
 (hn:S.n<G.T) (NV:S.k=G.T) (yy:G.xF S.n S.M S.mn.kn S.mn.own S.mn.g wm) (em:Env S.mn.kn wm w)
 (Be:stepG P true S.mn.g wm=.comm S.mn.g #[rcase G.co z1,rcase G.cd z2] true .select wm TP)
 (hh:∀r,r≠G.cd->w'.heap[r]?=w.heap[r]?) (bQ:w'.heap.size=w.heap.size/\w'.os=w.os/\w'.output=w.output) (YU:isChan w' G.cd)
 (g0:eE[0]?=some (S.mn.g.finishComm P #[rcase G.co z1,rcase G.cd z2] .select (1:Nat) v true)) (gj:eE[j]?=some (Conc.served (S.x j).g undef)) (go:∀i,i≠0->i≠j->eE[i]?=gs[i]?) (rM:eE.size=gs.size)
 (PF:Co (fun g=>S.act b g/\g≠j) S.kn S.own w'.heap.size t'):∃S',Mu.lt P G.co G.cd (b+G.T) (S'.mu G b) (S.mu G b)/\Inv G b S' eE w' t':=by
 obtain⟨m1,m2,m3,_⟩:=h.main;have bE:=h.b1;have env:∀{i},S.act b i->Env (S.kn i) w w':=fun hi=>h.Dn (.inr rfl) hh bQ hi;obtain⟨es,y,y',l1,l2,_,l3⟩:=G.WZ _ _ _ _ _ _ hn yy;rw[Be]at l1;simp only[GStep.comm.injEq,Array.mk.injEq,List.cons.injEq,rcase,CommCase.mk.injEq,true_and,and_true]at l1;obtain⟨⟨rfl,rfl⟩,rfl⟩:=l1;have W6:j-b<G.T:=by omega
 have hM:S.n+1=G.T->∀m,m<G.T->S.M m=G.E m:=by
  intro NW m hm
  have PG:(S.x (b+m)).s=false:=by
   by_cases e:m=j-b
   .rw[show b+m=j by omega];exact qr
   .have hl:S.cQ (b+m)=.left:=by
     refine Classical.byContradiction fun GF=>?_;have e1:=sumTo_upd (fun a=>S.cQ (b+a)) nL.left (fun s=>if s=nL.left then 1 else 0) W6;have e2:=sumTo_upd (upd (fun a=>S.cQ (b+a)) (j-b) nL.left) nL.left (fun s=>if s=nL.left then 1 else 0) hm;rw[upd_ne _ _ e]at e2;rw[h.cnt]at e1;simp only[if_neg GF,show b+(j-b)=j by omega,if_neg hs,if_pos]at e1 e2;have:=sumTo_le (f:=fun a=>if upd (upd (fun a=>S.cQ (b+a)) (j-b) nL.left) m nL.left a=nL.left then 1 else 0) (c:=1) (j:=G.T) fun i _=>by split<;>omega
     omega
    have hw:=(h.wk (b+m) (by omega) (by omega)).2;rw[hl]at hw;exact hw.1
  have:=h.marks m;rw[PG]at this;cases hE:G.E m with
  |true=>exact this.2 ⟨by omega,hE,rfl⟩
  |false=>
   cases hMm:S.M m with
   |false=>rfl
   |true=>have:=(this.1 hMm).2.1;rw[hE]at this;cases this
 refine⟨{S with n:=S.n+1,cQ:=upd S.cQ j .left,q:=upd S.q j q,mp:=false,mn:=⟨if S.n+1<G.T then G.xF (S.n+1) S.M else G.Out S.M,S.mn.kn,S.mn.own,S.mn.g.finishComm P #[rcase G.co z1,rcase G.cd z2] .select (1:Nat) v true,w'⟩},?_,?_⟩
 .refine .left _ _ ?_;show 2*(G.T-S.k)+(S.k-(S.n+1))<2*(G.T-S.k)+(S.k-S.n)
  omega
 .refine⟨bE,by rw[rM];exact h.size,h.kT,?_,?_,YU,fun i hi=>h.EY i ?_,fun i x hi Dp hx=>?_,fun i hi Lw=>?_,?_,?_,fun i hi=>?_,h.marks,fun x=>by have:S.k<G.T:=x;omega⟩
  .refine PF.oX fun g=>?_;show(g=0\/(b<=g/\g<b+S.k/\upd S.cQ j .left g≠ .left))↔((g=0\/(b<=g/\g<b+S.k/\S.cQ g≠ .left))/\g≠j)
   by_cases e:g=j
   .subst e;rw[upd_same];simp;omega
   .rw[upd_ne _ _ e];simp[e]
  .obtain⟨s,tm,hc⟩:=h.yr;exact⟨s,tm,(hh _ G.ne).trans hc⟩
  .rcases hi with hi|⟨h1,h2,h3⟩
   .exact .inl hi
   .have h3:upd S.cQ j .left i≠ .left:=h3;by_cases e:i=j
    .subst e;rw[upd_same]at h3;exact absurd rfl h3
    .rw[upd_ne _ _ e]at h3;exact .inr ⟨h1,h2,h3⟩
  .rw[go i (by omega) (by omega)]at hx;show QuitsIn P (upd S.q j q i) x;rw[upd_ne _ _ (by omega)];exact h.old i x hi Dp hx
  .by_cases e:i=j
   .subst e;refine⟨fun x=>?_,?_⟩
    .have x:upd S.cQ i .left i≠ .left:=x;rw[upd_same]at x;exact absurd rfl x
    .show(match upd S.cQ i .left i with|.run=>_|.po=>_|.pd=>_|.left=>_);simp only[upd_same];exact⟨qr,_,gj,hq⟩
   .exact(h.wk i hi Lw).other (upd_ne _ _ e) rfl (upd_ne _ _ e) rfl rfl (go i (by omega) e) fun hn=>env (.inr ⟨hi,Lw,hn⟩)
  .refine⟨m1,m2,Env.refl _ _,g0,rfl,?_,?_⟩
   .show iR P _ S.mn.kn S.mn.own _ w';exact l3 w' v (em.trans (m1▸env (.inl rfl))) hM
   .show _=(if S.k<G.T then G.Bd S.k else if S.n+1<G.T then G.xF (S.n+1) S.M else G.Out S.M)
    rw[if_neg (show¬S.k<G.T by omega)]
  .have:=sumTo_upd (fun a=>S.cQ (b+a)) nL.left (fun s=>if s=nL.left then 1 else 0) W6;rw[h.cnt]at this;have e:b+(j-b)=j:=by omega
   simp only[e,if_neg hs,if_pos]at this;rw[<-this];show sumTo G.T (fun a=>if upd S.cQ j .left (b+a)=nL.left then 1 else 0)=_;rw[Nat.add_zero];refine sumTo_congr fun a _=>?_;by_cases ea:a=j-b
   .subst ea;rw[e,upd_same,upd_same]
   .rw[upd_ne _ _ ea,upd_ne _ _ (by omega)]
  .show upd S.cQ j .left i=.run;have:b+S.k<=i:=hi;rw[upd_ne _ _ (by omega)];exact h.Hu i hi
end
theorem rN {f:Nat->Nat}:∀{n:Nat},(∀j,j<n->f j=1)->sumTo n f=n
 |0,_=>rfl
 |n+1,h=>by
  have:=rN (n:=n) fun j hj=>h j (by omega);simp only[sumTo,this,h n (by omega)]
section
variable {P:Program} {G:iw P} {b:Nat} {S S':St} {gs eE:Array Goroutine} {w w':World} {t t':Trace} {sl:Option (Nat × Nat)}
theorem Co.comm (h:Co A kn own B t) (hc:c<B) (h1:x1.act=.send c s) (h2:x2.act=.recv c r 0) (h3:x3.act=.sendDone c s) (h4:x4.act=.recvDone c r):
 Co A kn own B (t++#[x1,x2,x3,x4]):=by
 refine h.mute (fun op bJ=>?_) (fun op bJ=>?_) fun op bJ=>?_
 all_goals
  have:op=x1\/op=x2\/op=x3\/op=x4:=by simpa using bJ
  rcases this with rfl|rfl|rfl|rfl
 .rw[h1];rfl
 .rw[h2];rfl
 .rw[h3];rfl
 .rw[h4];rfl
 .rw[h1];exact⟨by simp,by simp⟩
 .rw[h2];exact⟨by simp,by simp⟩
 .rw[h3];exact⟨by simp,by simp⟩
 .rw[h4];exact⟨by simp,by simp⟩
 .rw[h1];exact hc
 .rw[h2];exact hc
 .rw[h3];exact hc
 .rw[h4];exact hc
theorem g?_of_touch {t:Trace} {a:Touch} (h:touchAt t i=some a):i<t.size:=by
 obtain⟨op,h1,_⟩:=fG h;exact lt_size_of_getElem? h1
theorem Co.left (h:Co A kn own B t) (hc:c<B) (h1:x1.act=.send c s) (g1:x1.g=j) (h2:x2.act=.recv c s 0) (h3:x3.act=.sendDone c s) (h4:x4.act=.recvDone c s) (g4:x4.g=0):
 Co (fun g=>A g/\g≠j) kn own B (t++#[x1,x2,x3,x4]):=by
 have kV:=h.comm hc h1 h2 h3 h4;refine kV.drop fun i a hi hg=>?_
 have ar:i<t.size:=by
  rcases fx hi with hi|⟨op,bJ,_,hb⟩
  .exact g?_of_touch hi
  .exfalso;have:op=x1\/op=x2\/op=x3\/op=x4:=by simpa using bJ
   rcases this with rfl|rfl|rfl|rfl
   .rw[h1]at hb;cases hb
   .rw[h2]at hb;cases hb
   .rw[h3]at hb;cases hb
   .rw[h4]at hb;cases hb
 rw[g?_old ar]at hg;exact handed (u:=#[x1,x2,x3,x4]) kV.calm (k:=0) (m:=3) (x:=x1) (y:=x4) rfl g1 h1 rfl g4 h4 hg
abbrev TQ (i:Nat) (fi:FuncId) (pi:String) (j:Nat) (fj:FuncId) (pj:String) (c s:Nat):Array MemOp:=
 #[{g:=i,fn:=fi,pos:=pi,act:=.send c s},{g:=j,fn:=fj,pos:=pj,act:=.recv c s 0},{g:=i,fn:=fi,pos:=pi,act:=.sendDone c s},{g:=j,fn:=fj,pos:=pj,act:=.recvDone c s}]
theorem Co.NY (h:Co A kn own B t) (hc:c<B) (i:Nat) (fi:FuncId) (pi:String) (j:Nat) (fj:FuncId) (pj:String) (s:Nat):Co A kn own B (t++TQ i fi pi j fj pj c s):=
 h.comm hc rfl rfl rfl rfl
theorem Co.NZ (h:Co A kn own B t) (hc:c<B) (i:Nat) (fi:FuncId) (pi:String) (fj:FuncId) (pj:String) (s:Nat):Co (fun g=>A g/\g≠i) kn own B (t++TQ i fi pi 0 fj pj c s):=
 h.left hc rfl rfl rfl rfl rfl rfl
theorem gA (w:World) {cap:Nat} {buf:Array Value} {cl:Bool} (h:r≠c):(w.setChan c cap buf cl s q tm).heap[r]?=w.heap[r]?:=by
 show(w.heap.setIfInBounds c _)[r]?=_;exact aF _ h
theorem cY (w:World) (c cap s q:Nat) (buf:Array Value) (cl tm:Bool):(w.setChan c cap buf cl s q tm).heap.size=w.heap.size:=by
 show(w.heap.setIfInBounds c _).size=_;simp
theorem fH {w:World} (h:c<w.heap.size):isChan (w.setChan c 0 #[] false s s tm) c:=⟨s,tm,by
 show(w.heap.setIfInBounds c _)[c]?=_;exact aO _ h⟩
theorem Bf {a:Array Goroutine} {x y:Goroutine} (qH:j≠i) (hi:i<a.size) (hj:j<a.size):
 ((a.setIfInBounds j x).setIfInBounds i y)[i]?=some y/\((a.setIfInBounds j x).setIfInBounds i y)[j]?=some x/\(∀k,k≠i->k≠j->((a.setIfInBounds j x).setIfInBounds i y)[k]?=a[k]?)/\((a.setIfInBounds j x).setIfInBounds i y).size=a.size:=by
 refine⟨aO _ (by simpa using hi),?_,fun k h1 h2=>?_,by simp⟩
 .rw[aF _ qH];exact aO _ hj
 .rw[aF _ h1,aF _ h2]
theorem Inv.um (h:Inv G b S gs w t) (hk:i<b+S.k) (hm:S.mp=false) (hc:isChan w c) (hi:gs[i]?=some g) (ig:0<i) (bM:stepG P false g w=.comm g #[scase c v z] true .send w es):
 runT P (crowd gs w sl) i=(.next (crowd (gs.setIfInBounds i (parked g #[scase c v z] .send)) w sl),MemOp.ofEvents i g.frame.fn g.frame.place es):=by
 have xH:(i==0)=false:=by simp;omega
 obtain⟨s,tm,hc⟩:=hc;refine crowd_waits hi (by rw[xH];exact bM) fun cc tz=>?_;have:cc=scase c v z:=by simpa using tz
 rw[this];refine ways_send_none hc (Nat.zero_le _) (partners_nil fun j x hx=>?_);rcases getElem?_stand _ _ _ _ hx with⟨_,rfl⟩|⟨_,hx⟩
 .exact offersAt_ph _ _
 .exact h.pK hx (fun e=>by rw[hm]at e;cases e.2) c
theorem Inv.uo (h:Inv G b S gs w t) (hm:S.mp=true) {k:Nat} (PA:gs[0]?=some (parked S.mn.g #[rcase G.co z1,rcase G.cd z2] .select)) (hk:(c=G.co/\k=0)\/(c=G.cd/\k=1))
 (hc:w.heap[c]?=some (.chan 0 #[] false s s tm)) (hi:gs[i]?=some g) (ig:0<i) (bM:stepG P false g w=.comm g #[scase c v z] true .send w es):
 runT P (crowd gs w sl) i=(.next (crowd ((gs.setIfInBounds 0 (S.mn.g.finishComm P #[rcase G.co z1,rcase G.cd z2] .select k v true)).setIfInBounds i (Conc.served g undef)) (w.setChan c 0 #[] false (s+1) (s+1) tm) sl),
  MemOp.ofEvents i g.frame.fn g.frame.place es++#[{g:=i,fn:=g.frame.fn,pos:=g.frame.place,act:=.send c s},{g:=0,fn:=S.mn.g.frame.fn,pos:=S.mn.g.frame.place,act:=.recv c s 0},
   {g:=i,fn:=g.frame.fn,pos:=g.frame.place,act:=.sendDone c s},{g:=0,fn:=S.mn.g.frame.fn,pos:=S.mn.g.frame.place,act:=.recvDone c s}]):=by
 have xH:(i==0)=false:=by simp;omega
 have jx:∃z',(#[rcase G.co z1,rcase G.cd z2]:Array CommCase)[k]?=some (rcase c z'):=by
  rcases hk with⟨rfl,rfl⟩|⟨rfl,rfl⟩
  .exact⟨z1,rfl⟩
  .exact⟨z2,rfl⟩
 obtain⟨z',jx⟩:=jx
 have hu:∀(m:Nat) (cc:CommCase),m≠k->(#[rcase G.co z1,rcase G.cd z2]:Array CommCase)[m]?=some cc->cc.chan≠ .chan (some c):=by
  intro m cc gS tz;have bC:=G.ne;match m with
  |0=>
   have:cc=rcase G.co z1:=by simpa using tz.symm
   rw[this];rcases hk with⟨rfl,rfl⟩|⟨rfl,rfl⟩
   .exact absurd rfl gS
   .simp[rcase,bC]
  |1=>
   have:cc=rcase G.cd z2:=by simpa using tz.symm
   rw[this];rcases hk with⟨rfl,rfl⟩|⟨rfl,rfl⟩
   .simp[rcase,Ne.symm bC]
   .exact absurd rfl gS
  |m+2=>simp at tz
 have E6:offersAt (parked S.mn.g #[rcase G.co z1,rcase G.cd z2] .select) c false=[k]:=offersAt_parked_at jx hu
 have hp:partners (gs.setIfInBounds i ph) c false=[(0,k)]:=by
  rw[partners_one (stand_get (by omega) PA) fun j x hj hx=>?_,E6]
  .rfl
  .rcases getElem?_stand _ _ _ _ hx with⟨_,rfl⟩|⟨_,hx⟩
   .exact offersAt_ph _ _
   .exact h.pK hx (fun e=>hj e.1) c
 exact crowd_send_meets_sel hi (by rw[xH];exact bM) hc (by omega) PA jx hp
theorem Inv.Bg (h:Inv G b S gs w t) (hb:b<=i) (hk:i<b+S.k) (hs:S.cQ i=.run):nM G b S gs w sl t i:=by
 have EZ:=h.wk i hb hk;have hn:S.cQ i≠ .left:=by rw[hs];simp
 obtain⟨a1,a2,a3,a4,a5,a6,a7⟩:=EZ.1 hn;have c:=EZ.2;rw[hs]at c;obtain⟨c1,c2⟩:=c;have bE:=h.b1;have hi:S.act b i:=.inr ⟨hb,hk,hn⟩;have bQ:i<gs.size:=(Array.getElem?_eq_some_iff.1 c1).1;have NI:WT P G.co G.cd (S.x i).vm (S.x i).s (S.x i).kn (S.x i).own (S.x i).g (S.x i).w:=a1;cases NI with
 |mk ok go PB=>
  rcases ok w a6 with⟨g2,w3,es,h1,h2,h3⟩|⟨z,es,h1,h2,h3⟩|⟨v,z,es,q,h1,h2,h3,h4⟩
  .exact h.Hv hb hk hs h1 h2 h3
  .cases hm:S.mp with
   |false=>
    have aX:=h.um (sl:=sl) hk hm h.yr c1 (by omega) h2;refine h.TO hb hk hs hm (.inl rfl) h3 aX ⟨fun _=>⟨a1,a2,a3,a4,a5,a6,a7⟩,?_⟩;show(match upd S.cQ i .po i with|.run=>_|.po=>_|.pd=>_|.left=>_);rw[upd_same];exact⟨h1,w,z,es,a6,Env.refl _ _,h2,aO _ bQ⟩
   |true=>
    obtain⟨m1,m2,m3,m4⟩:=h.main;rw[hm]at m4;obtain⟨k1,k2,⟨wm,z1,z2,TP,n1,n2,n3,n4⟩,_⟩:=m4;obtain⟨s,tm,Dj⟩:=h.yr;have aX:=h.uo (sl:=sl) hm n4 (.inl ⟨rfl,rfl⟩) Dj c1 (by omega) h2;obtain⟨q1,q2,q3,q4⟩:=Bf (a:=gs) (i:=i) (j:=0) (x:=S.mn.g.finishComm P #[rcase G.co z1,rcase G.cd z2] .select (0:Nat) (S.x i).vm true) (y:=Conc.served (S.x i).g undef) (by omega) bQ (by omega);have ar:=h.yr.lt
    obtain⟨S',r1,r2⟩:=h.Do (w':=w.setChan G.co 0 #[] false (s+1) (s+1) tm) hb hk (.inl hs) h1 a6 (Env.refl _ _) h2 k2 k1 n1 n2 n3 (fun r hr=>gA w hr) ⟨cY ..,rfl,rfl⟩ (fH ar) q2 q1 (fun k e1 e2=>q3 k e2 e1) q4
     (by rw[cY];exact(h.co.TK hi (es:=es) (by rw[a4,a5];exact h3) (S.x i).g.frame.fn (S.x i).g.frame.place).NY ar i (S.x i).g.frame.fn (S.x i).g.frame.place 0 S.mn.g.frame.fn S.mn.g.frame.place s)
    exact⟨S',_,_,_,_,aX,r1,by rw[<-Array.append_assoc];exact r2⟩
  .cases hm:S.mp with
   |false=>
    have aX:=h.um (sl:=sl) hk hm h.yt c1 (by omega) h2;refine h.TO hb hk hs hm (.inr rfl) h3 aX ⟨fun _=>⟨a1,a2,a3,a4,a5,a6,a7⟩,?_⟩;show(match upd S.cQ i .pd i with|.run=>_|.po=>_|.pd=>_|.left=>_);rw[upd_same];exact⟨h1,v,z,q,aO _ bQ,h4⟩
   |true=>
    obtain⟨m1,m2,m3,m4⟩:=h.main;rw[hm]at m4;obtain⟨k1,k2,⟨wm,z1,z2,TP,n1,n2,n3,n4⟩,_⟩:=m4;obtain⟨s,tm,Dj⟩:=h.yt;have aX:=h.uo (sl:=sl) hm n4 (.inr ⟨rfl,rfl⟩) Dj c1 (by omega) h2;obtain⟨q1,q2,q3,q4⟩:=Bf (a:=gs) (i:=i) (j:=0) (x:=S.mn.g.finishComm P #[rcase G.co z1,rcase G.cd z2] .select (1:Nat) v true) (y:=Conc.served (S.x i).g undef) (by omega) bQ (by omega);have ar:=h.yt.lt
    obtain⟨S',r1,r2⟩:=h.yz (w':=w.setChan G.cd 0 #[] false (s+1) (s+1) tm) (v:=v) hb hk hn h1 h4 k2 k1 n1 n2 n3 (fun r hr=>gA w hr) ⟨cY ..,rfl,rfl⟩ (fH ar) q2 q1 (fun k e1 e2=>q3 k e2 e1) q4
     (by rw[cY];exact(h.co.TK hi (es:=es) (by rw[a4,a5];exact h3) (S.x i).g.frame.fn (S.x i).g.frame.place).NZ ar i (S.x i).g.frame.fn (S.x i).g.frame.place S.mn.g.frame.fn S.mn.g.frame.place s)
    exact⟨S',_,_,_,_,aX,r1,by rw[<-Array.append_assoc];exact r2⟩
theorem Inv.Bh (h:Inv G b S gs w t) (hm:S.mp=false) (NV:S.k=G.T) (hn:S.n<G.T) (yy:G.xF S.n S.M S.mn.kn S.mn.own S.mn.g w):nM G b S gs w sl t 0:=by
 obtain⟨m1,m2,m3,m4⟩:=h.main;rw[hm]at m4;obtain⟨c1,c2,c3,c4⟩:=m4;have h0:S.act b 0:=.inl rfl;have hb:=h.b1;obtain⟨es,z1,z2,l1,l2,_,_⟩:=G.WZ _ _ _ _ _ _ hn yy;have l1':stepG P (0==0) S.mn.g w=.comm S.mn.g #[rcase G.co z1,rcase G.cd z2] true .select w es:=l1;have bQ:0<gs.size:=(Array.getElem?_eq_some_iff.1 c1).1;obtain⟨so,tmo,PH⟩:=h.yr;obtain⟨sd,tmd,PI⟩:=h.yt;have PJ:=h.co.TK h0 (es:=es) (by rw[m1,m2];exact l2) S.mn.g.frame.fn S.mn.g.frame.place
 have mem:∀c j k,(j,k)∈partners (gs.setIfInBounds 0 ph) c true->k=0/\j≠0/\b<=j/\j<b+S.k/\
  ((c=G.co/\S.cQ j=.po/\∃z,gs[j]?=some (parked (S.x j).g #[scase G.co (S.x j).vm z] .send))\/(c=G.cd/\S.cQ j=.pd/\∃v z,gs[j]?=some (parked (S.x j).g #[scase G.cd v z] .send))):=by
  intro c j k qM;obtain⟨x,hx,hk⟩:=mem_partners.1 qM;rcases getElem?_stand _ _ _ _ hx with⟨_,rfl⟩|⟨hj,hx⟩
  .rw[offersAt_ph]at hk;cases hk
  rcases h.kinds hx with⟨h1,_⟩|⟨e1,e2,_⟩|⟨e1,e2,e3,z,e⟩|⟨e1,e2,e3,v,z,e⟩
  .rw[offersAt_of_not_blocked (fun e=>by rcases h1 with h1|h1<;>rw[h1]at e<;>cases e)]at hk;cases hk
  .rw[hm]at e2;cases e2
  .rw[e,offersAt_parked_send]at hk;split at hk
   .rename_i ec;exact⟨by simpa using hk,hj,e1,e2,.inl ⟨ec.symm,e3,z,e▸hx⟩⟩
   .cases hk
  .rw[e,offersAt_parked_send]at hk;split at hk
   .rename_i ec;exact⟨by simpa using hk,hj,e1,e2,.inr ⟨ec.symm,e3,v,z,e▸hx⟩⟩
   .cases hk
 have vW:∀(m:Nat) (cc:CommCase),(#[rcase G.co z1,rcase G.cd z2]:Array CommCase)[m]?=some cc->(m=0/\cc=rcase G.co z1)\/(m=1/\cc=rcase G.cd z2):=by
  intro m cc tz;match m with
  |0=>exact .inl ⟨rfl,by simpa using tz.symm⟩
  |1=>exact .inr ⟨rfl,by simpa using tz.symm⟩
  |m+2=>simp at tz
 by_cases Hw:partners (gs.setIfInBounds 0 ph) G.co true=[]/\partners (gs.setIfInBounds 0 ph) G.cd true=[]
 ·
  have aX:=crowd_waits (P:=P) (sl:=sl) c1 l1' fun cc tz=>by
   have:cc=rcase G.co z1\/cc=rcase G.cd z2:=by simpa using tz
   rcases this with rfl|rfl
   .exact ways_recv_none PH Hw.1
   .exact ways_recv_none PI Hw.2
  refine⟨{S with mp:=true},_,w,sl,_,aX,?_,?_⟩
  .refine .right _ (.right _ (.left _ _ ?_));show Prod.Lex _ _ (S.mn,0) (S.mn,if S.mp=true then 0 else 1);rw[hm];exact .right _ Nat.zero_lt_one
  .refine⟨hb,by simpa using h.size,h.kT,PJ,h.yr,h.yt,h.EY,fun j x hj vD hx=>?_,fun j hj qM=>?_,?_,h.cnt,h.Hu,h.marks,h.early⟩
   .rw[aF _ (by omega)]at hx;exact h.old j x hj vD hx
   .exact(h.wk j hj qM).other rfl rfl rfl rfl rfl (aF _ (by omega)) fun _=>Env.refl _ _
   .refine⟨m1,m2,m3,NV,hn,⟨w,z1,z2,es,yy,Env.refl _ _,l1,aO _ bQ⟩,fun i hi Lw=>?_⟩;have Lw:i<b+S.k:=Lw;have hw:=(h.wk i hi Lw).2;refine⟨fun e=>?_,fun e=>?_⟩
    .have e:S.cQ i=.po:=e;rw[e]at hw;obtain⟨_,w1,z,es1,_,_,_,hg⟩:=hw;have:(i,0)∈partners (gs.setIfInBounds 0 ph) G.co true:=mem_partners.2 ⟨_,stand_get (by omega) hg,by rw[offersAt_parked_send];simp⟩;rw[Hw.1]at this;cases this
    .have e:S.cQ i=.pd:=e;rw[e]at hw;obtain⟨_,v,z,q,hg,_⟩:=hw;have:(i,0)∈partners (gs.setIfInBounds 0 ph) G.cd true:=mem_partners.2 ⟨_,stand_get (by omega) hg,by rw[offersAt_parked_send];simp⟩;rw[Hw.2]at this;cases this
 ·
  obtain⟨m,c,z,s,r,tm,j,gj,vj,zj,Hq,d,k1,k2,k3,k4,aX⟩:=ma (P:=P) (sl:=sl) c1 l1' (fun m cc tz=>by
   rcases vW m cc tz with⟨_,rfl⟩|⟨_,rfl⟩
   .refine⟨_,_,_,_,_,rfl,PH,fun j k qM=>?_⟩;obtain⟨e1,e2,_,_,⟨_,_,z,e⟩|⟨e,_⟩⟩:=mem _ j k qM
    .exact⟨e1,e2,_,_,_,_,e⟩
    .exact absurd e G.ne
   .refine⟨_,_,_,_,_,rfl,PI,fun j k qM=>?_⟩;obtain⟨e1,e2,_,_,⟨e,_⟩|⟨_,_,v,z,e⟩⟩:=mem _ j k qM
    .exact absurd e.symm G.ne
    .exact⟨e1,e2,_,_,_,_,e⟩) (by
   by_cases h1:partners (gs.setIfInBounds 0 ph) G.co true=[]
   .exact⟨1,_,_,rfl,fun e=>Hw ⟨h1,e⟩⟩
   .exact⟨0,_,_,rfl,h1⟩)
  have TR:j<gs.size:=(Array.getElem?_eq_some_iff.1 k4).1;have PK:=h.kinds k4
  have same:∀{g:Goroutine} {cs:Array CommCase} {sh:CommShape},parked gj #[scase c vj zj] Hq=parked g cs sh->gj.frame=g.frame/\#[scase c vj zj]=cs/\Hq=sh/\Conc.served gj undef=Conc.served g undef:=by
   intro g cs sh e;obtain⟨f1,f2,f3,f4,f5⟩:=gj;obtain⟨g1,g2,g3,g4,g5⟩:=g;simp only[parked,Goroutine.mk.injEq,Option.some.injEq,Prod.mk.injEq,true_and]at e;obtain⟨rfl,rfl,rfl,rfl,rfl⟩:=e;exact⟨rfl,rfl,rfl,rfl⟩
  rcases PK with⟨e1,_⟩|⟨e1,_⟩|⟨e1,e2,e3,z',e⟩|⟨e1,e2,e3,v,z',e⟩
  .rcases e1 with e1|e1<;>cases e1
  .exact absurd e1 k3
  .obtain⟨f1,f2,f3,f4⟩:=same e;simp only[Array.mk.injEq,List.cons.injEq,scase,CommCase.mk.injEq,Value.chan.injEq,Option.some.injEq,and_true]at f2;obtain⟨rfl,rfl,rfl⟩:=f2;subst f3
   have EF:m=0:=by
    rcases vW m _ k1 with⟨e0,_⟩|⟨_,hz⟩
    .exact e0
    .simp only[rcase,CommCase.mk.injEq,Value.chan.injEq,Option.some.injEq]at hz;exact absurd hz.1 G.ne
   subst EF;have EZ:=(h.wk j e1 e2).2;rw[e3]at EZ;obtain⟨x1,w1,zw,es1,x2,x3,x4,x5⟩:=EZ;rw[PH]at k2;simp only[Option.some.injEq,Obj.chan.injEq,true_and]at k2;obtain⟨rfl,rfl,rfl⟩:=k2;obtain⟨q1,q2,q3,q4⟩:=Bf (a:=gs) (i:=0) (j:=j) (x:=Conc.served (S.x j).g undef) (y:=S.mn.g.finishComm P #[rcase G.co z1,rcase G.cd z2] .select (0:Nat) (S.x j).vm true) k3 bQ TR;have ar:G.co<(w.at d).heap.size:=h.yr.lt
   obtain⟨S',r1,r2⟩:=h.Do (w':=(w.at d).setChan G.co 0 #[] false (so+1) (so+1) tmo) e1 e2 (.inr e3) x1 x2 x3 x4 hn NV yy (Env.refl _ _) l1 (fun r hr=>gA (w.at d) hr) ⟨cY ..,rfl,rfl⟩ (fH ar) q1 q2 q3 q4
    (by rw[cY];exact PJ.NY ar j (S.x j).g.frame.fn (S.x j).g.frame.place 0 S.mn.g.frame.fn S.mn.g.frame.place so)
   refine⟨S',_,_,_,_,aX,r1,?_⟩;rw[<-Array.append_assoc,finishComm_send,f4,f1];exact r2
  .obtain⟨f1,f2,f3,f4⟩:=same e;simp only[Array.mk.injEq,List.cons.injEq,scase,CommCase.mk.injEq,Value.chan.injEq,Option.some.injEq,and_true]at f2;obtain⟨rfl,rfl,rfl⟩:=f2;subst f3
   have EF:m=1:=by
    rcases vW m _ k1 with⟨_,hz⟩|⟨e0,_⟩
    .simp only[rcase,CommCase.mk.injEq,Value.chan.injEq,Option.some.injEq]at hz;exact absurd hz.1.symm G.ne
    .exact e0
   subst EF;have EZ:=(h.wk j e1 e2).2;rw[e3]at EZ;obtain⟨x1,v2,zw,q,x2,x3⟩:=EZ;rw[PI]at k2;simp only[Option.some.injEq,Obj.chan.injEq,true_and]at k2;obtain⟨rfl,rfl,rfl⟩:=k2;obtain⟨q1,q2,q3,q4⟩:=Bf (a:=gs) (i:=0) (j:=j) (x:=Conc.served (S.x j).g undef) (y:=S.mn.g.finishComm P #[rcase G.co z1,rcase G.cd z2] .select (1:Nat) vj true) k3 bQ TR;have ar:G.cd<(w.at d).heap.size:=h.yt.lt
   obtain⟨S',r1,r2⟩:=h.yz (w':=(w.at d).setChan G.cd 0 #[] false (sd+1) (sd+1) tmd) (v:=vj) e1 e2 (by rw[e3];simp) x1 x3 hn NV yy (Env.refl _ _) l1 (fun r hr=>gA (w.at d) hr) ⟨cY ..,rfl,rfl⟩ (fH ar) q1 q2 q3 q4
    (by rw[cY];exact PJ.NZ ar j (S.x j).g.frame.fn (S.x j).g.frame.place S.mn.g.frame.fn S.mn.g.frame.place sd)
   refine⟨S',_,_,_,_,aX,r1,?_⟩;rw[<-Array.append_assoc,finishComm_send,f4,f1];exact r2
end
section
variable {P:Program} {G:iw P} {b:Nat} {S S':St} {gs eE:Array Goroutine} {w w':World} {t t':Trace} {sl:Option (Nat × Nat)}
theorem Inv.nT (h:Inv G b S gs w t):S.n<=G.T:=by
 rw[<-h.cnt];have:=sumTo_le (f:=fun j=>if S.cQ (b+j)=.left then 1 else 0) (c:=1) (j:=G.T) fun i _=>by split<;>omega
 omega
theorem Inv.TS (h:Inv G b S gs w t):∃(i:Nat) (g:Goroutine),gs[i]?=some g/\g.status=.running:=by
 obtain⟨m1,m2,m3,m4⟩:=h.main;cases hm:S.mp with
 |false=>rw[hm]at m4;exact⟨0,_,m4.1,m4.2.1⟩
 |true=>
  rw[hm]at m4;obtain⟨k1,k2,_,k3⟩:=m4
  have:∃j,j<G.T/\S.cQ (b+j)≠ .left:=by
   refine Classical.byContradiction fun hn=>?_;have:sumTo G.T (fun j=>if S.cQ (b+j)=.left then 1 else 0)=G.T:=rN fun j hj=>if_pos (Classical.byContradiction fun hs=>hn ⟨j,hj,hs⟩);rw[h.cnt]at this;omega
  obtain⟨j,hj,hs⟩:=this;obtain⟨n1,n2⟩:=k3 (b+j) (by omega) (by omega);have hw:=(h.wk (b+j) (by omega) (by omega)).2;cases bM:S.cQ (b+j)with
  |run=>rw[bM]at hw;exact⟨_,_,hw.1,hw.2⟩
  |po=>exact absurd bM n1
  |pd=>exact absurd bM n2
  |left=>exact absurd bM hs
def kq (G:iw P) (S:St) (w:World):Prop:=S.k=G.T/\S.n=G.T/\S.mp=false/\G.Out S.M S.mn.kn S.mn.own S.mn.g w
theorem Inv.YV (h:Inv G b S gs w t) (hi:gs[i]?=some g) (hr:g.status=.running):kq G S w\/nM G b S gs w sl t i:=by
 have ar:i<b+S.k:=by rw[<-h.size];exact(Array.getElem?_eq_some_iff.1 hi).1
 rcases Nat.eq_zero_or_pos i with rfl|ig
 .obtain⟨m1,m2,m3,m4⟩:=h.main;cases hm:S.mp with
  |true=>
   rw[hm]at m4;obtain⟨_,_,⟨_,_,_,_,_,_,_,k⟩,_⟩:=m4;rw[hi]at k;rw[Option.some.inj k]at hr;cases hr
  |false=>
   rw[hm]at m4;obtain⟨c1,c2,c3,c4⟩:=m4
   have Hx:S.mn.At S.mn.kn S.mn.own S.mn.g w->kq G S w\/nM G b S gs w sl t 0:=by
    intro tg;rw[c4]at tg;unfold St.At at tg;by_cases hk:S.k<G.T
    .rw[if_pos hk]at tg;exact .inr (h.E0 hm hk tg)
    .rw[if_neg hk]at tg;have NV:S.k=G.T:=by have:=h.kT;omega
     by_cases hn:S.n<G.T
     .rw[if_pos hn]at tg;exact .inr (h.Bh hm NV hn tg)
     .rw[if_neg hn]at tg;exact .inl ⟨NV,by have:=h.nT;omega,hm,tg⟩
   by_cases hA:S.mn.At S.mn.kn S.mn.own S.mn.g w
   .exact Hx hA
   .have c3':iR P S.mn.At S.mn.kn S.mn.own S.mn.g S.mn.w:=c3;cases c3' with
    |mk ok go=>
     rcases ok w m3 with hA|⟨g2,w3,es,h1,h2,h3⟩
     .exact Hx hA
     .exact .inr (h.PC hm hA h1 h2 h3)
 .rcases Nat.lt_or_ge i b with Dp|Dp
  .exact .inr (h.quit hi hr ig (.inl Dp))
  .have hw:=(h.wk i Dp ar).2;cases bM:S.cQ i with
   |run=>exact .inr (h.Bg Dp ar bM)
   |left=>exact .inr (h.quit hi hr ig (.inr ⟨Dp,bM⟩))
   |po=>
    rw[bM]at hw;obtain⟨_,_,_,_,_,_,_,k⟩:=hw;rw[hi]at k;rw[Option.some.inj k]at hr;cases hr
   |pd=>
    rw[bM]at hw;obtain⟨_,_,_,_,k,_⟩:=hw;rw[hi]at k;rw[Option.some.inj k]at hr;cases hr
theorem Inv.step (h:Inv G b S gs w t):kq G S w\/∃S' eE w' gI ops,stepT P (crowd gs w sl)=(.next (crowd eE w' gI),ops)/\Mu.lt P G.co G.cd (b+G.T) (S'.mu G b) (S.mu G b)/\Inv G b S' eE w' (t++ops):=by
 obtain⟨i,g,d,gI,hi,hg,bM⟩:=crowd_pick (P:=P) (w:=w) (sl:=sl) h.awake h.TS;rcases(h.at d).YV (sl:=gI) hi hg with⟨h1,h2,h3,h4⟩|⟨S',eE,w',Lx,ops,h1,h2,h3⟩
 .exact .inl ⟨h1,h2,h3,G.Ht _ _ _ _ _ _ h4⟩
 .exact .inr ⟨S',eE,w',Lx,ops,bM.trans h1,h2,h3⟩
theorem Inv.toEnd (h:Inv G b S gs w t):∃N S' eE w' gI t',runNT P N (crowd gs w sl) t=(.next (crowd eE w' gI),t')/\Inv G b S' eE w' t'/\kq G S' w':=by
 have key:∀μ:Mu,∀(S:St) (gs:Array Goroutine) (w:World) (t:Trace) (sl:Option (Nat×Nat)),S.mu G b=μ->Inv G b S gs w t->∃N S' eE w' gI t',runNT P N (crowd gs w sl) t=(.next (crowd eE w' gI),t')/\Inv G b S' eE w' t'/\kq G S' w':=by
  intro μ;induction((Mu.wf P G.co G.cd (b+G.T)).apply μ)with
  |intro μ _ ih=>
   intro S gs w t sl hμ h;rcases h.step (sl:=sl)with ho|⟨S',eE,w',gI,ops,h1,h2,h3⟩
   .exact⟨0,S,gs,w,sl,t,rfl,h,ho⟩
   .obtain⟨N,S2,NO,w2,Lx,t2,k1,k2,k3⟩:=ih _ (hμ▸h2) S' eE w' (t++ops) gI rfl h3;exact⟨N+1,S2,NO,w2,Lx,t2,by simp only[runNT,h1];exact k1,k2,k3⟩
 exact key _ S gs w t sl rfl h
theorem Inv.TT (h:Inv G b S gs w t) (ho:kq G S w):gs[0]?=some S.mn.g/\S.mn.g.status=.running/\(∀i g,0<i->gs[i]?=some g->QuitsIn P (S.q i) g)/\Co (fun g=>g=0) (fun _=>S.mn.kn) (fun _=>S.mn.own) w.heap.size t/\∀m,m<G.T->S.M m=G.E m:=by
 obtain⟨k1,k2,k3,k4⟩:=ho;obtain⟨m1,m2,m3,m4⟩:=h.main;rw[k3]at m4;have hb:=h.b1
 have all:∀j,j<G.T->S.cQ (b+j)=.left:=by
  intro j hj;refine Classical.byContradiction fun hn=>?_;have e:=sumTo_upd (fun a=>S.cQ (b+a)) nL.left (fun s=>if s=nL.left then 1 else 0) hj;rw[h.cnt,k2]at e;simp only[if_neg hn,if_pos]at e;have le:=sumTo_le (f:=fun a=>if upd (fun a=>S.cQ (b+a)) j nL.left a=nL.left then 1 else 0) (c:=1) (j:=G.T) fun i _=>by split<;>omega
  omega
 have lf:∀i,b<=i->i<b+S.k->S.cQ i=.left:=fun i h1 h2=>by
  have:=all (i-b) (by omega);rwa [show b+(i-b)=i by omega]at this
 refine⟨m4.1,m4.2.1,fun i g hi hg=>?_,?_,fun m hm=>?_⟩
 .rcases Nat.lt_or_ge i b with Dp|Dp
  .exact h.old i g hi Dp hg
  .have ar:i<b+S.k:=by rw[<-h.size];exact(Array.getElem?_eq_some_iff.1 hg).1
   have hw:=(h.wk i Dp ar).2;rw[lf i Dp ar]at hw;obtain⟨_,g',h1,h2⟩:=hw;rw[hg]at h1;exact Option.some.inj h1▸h2
 .have e:∀g,S.act b g↔g=0:=fun g=>by
   constructor
   .rintro(e|⟨e1,e2,e3⟩)
    .exact e
    .exact absurd (lf g e1 e2) e3
   .exact .inl
  have hc:=h.co.oX (A':=fun g=>g=0) fun g=>(e g).symm;refine hc.shrink (fun g hg r hr=>?_) (fun g hg r hr=>?_) fun g hg r hr=>?_
  .rw[hg,m1];exact hr
  .rw[hg,m2];exact hr
  .have:=hc.sub 0 rfl r (by rw[m2];exact hr);rwa [m1]at this
 .have hw:=(h.wk (b+m) (by omega) (by omega)).2;rw[all m hm]at hw;have:=h.marks m;rw[hw.1]at this;cases hE:G.E m with
  |true=>exact this.2 ⟨by omega,hE,rfl⟩
  |false=>
   cases hM:S.M m with
   |false=>rfl
   |true=>have:=(this.1 hM).2.1;rw[hE]at this;cases this
theorem Inv.begin (G:iw P) {kn own:Nat->Prop} {g:Goroutine} {q:Nat->Nat} (hg:gs[0]?=some g) (hr:g.status=.running) (hq:∀i x,0<i->gs[i]?=some x->QuitsIn P (q i) x)
 (kV:Co (fun g=>g=0) (fun _=>kn) (fun _=>own) w.heap.size t) (ho:isChan w G.co) (hd:isChan w G.cd) (gT:¬kn G.co) (xB:¬kn G.cd) (hs:iR P (G.Bd 0) kn own g w):
 Inv G gs.size {k:=0,n:=0,M:=fun _=>false,kn:=fun _=>kn,own:=fun _=>own,cQ:=fun _=>.run,x:=fun _=>⟨default,true,kn,own,g,w⟩,q:=q,mp:=false,mn:=⟨G.Bd 0,kn,own,g,w⟩} gs w t:=by
 have bQ:0<gs.size:=(Array.getElem?_eq_some_iff.1 hg).1;refine⟨bQ,rfl,Nat.zero_le _,?_,ho,hd,fun i _=>⟨gT,xB⟩,fun i x hi _ hx=>hq i x hi hx,fun i h1 h2=>?_,?_,?_,fun _ _=>rfl,fun m=>?_,fun _=>⟨rfl,fun _=>rfl⟩⟩
 .refine kV.oX fun g=>?_;show(g=0\/(gs.size<=g/\g<gs.size+0/\_))↔g=0;constructor
  .rintro(e|⟨e1,e2,_⟩)
   .exact e
   .omega
  .exact .inl
 .exfalso;have h2:i<gs.size+0:=h2;omega
 .refine⟨rfl,rfl,Env.refl _ _,hg,hr,hs,?_⟩;show G.Bd 0=if 0<G.T then G.Bd 0 else _
  rw[if_pos G.pos]
 .show sumTo G.T (fun j=>if nL.run=nL.left then 1 else 0)=0;have:=sumTo_le (f:=fun _=>if nL.run=nL.left then 1 else 0) (c:=0) (j:=G.T) fun i _=>by simp
  simpa using this
 .show false=true↔(m<0/\_)
  simp
end
end Go.aq
