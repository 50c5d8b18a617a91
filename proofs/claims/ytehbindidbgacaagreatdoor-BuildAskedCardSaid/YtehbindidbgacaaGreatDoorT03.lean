/- A part. Conditions: none. -/
import Derived.Test.YtehbindidbgacaaGreatDoorT02
import Derived.Conc.Beside
import Derived.Conc.CrowdTrace
set_option linter.all false
namespace Go.aB
open Go.Conc
open Go.ConcN (upd upd_same upd_ne fork_knows)
variable {a:Touch} {c g i r s:Nat} {es:Array Event} {l:Loc} {op x y:MemOp}
def iY (l:Loc) (r:Nat):Prop:=(∃a:Addr,l=.cell a/\a.block=r)\/l=.obj r
theorem iY.inj (h:iY l r) (k:iY l s):r=s:=by
 rcases h with⟨a,h,rfl⟩|h<;>rcases k with⟨b,k,rfl⟩|k<;>rw[h]at k<;>cases k<;>rfl
theorem iY.low {B:Nat} (h:iY l r) (k:l.low B):r<B:=by
 rcases h with⟨a,rfl,rfl⟩|rfl<;>exact k
def Calm (t:Trace):Prop:=∀op∈t,op.act≠ .mark .disable/\op.act≠ .mark .enable
theorem Calm.deaf {t:Trace} (h:Calm t) (g:Nat):∀i,t.deaf g i=0:=by
 intro i;induction i with
 |zero=>rfl
 |succ i ih=>
  cases hy:t[i]? with
  |none=>simp only[Trace.deaf,hy];exact ih
  |some y=>
   rw[deaf_succ hy,ih];have:=h y (Array.mem_of_getElem? hy);unfold deafStep;split
   .exact absurd (by assumption) this.1
   .exact absurd (by assumption) this.2
   .rfl
theorem Calm.app {t u:Trace} (h:Calm t) (k:Calm u):Calm (t++u):=fun op bq=>(Array.mem_append.1 bq).elim (h op) (k op)
theorem Calm.heard {t:Trace} (h:Calm t) (hi:t[i]?=some op):t.heard i:=⟨op.g,by simp[Trace.g?,hi],h.deaf _ _⟩
theorem zo {x:MemAct} {B:Nat} {b:Touch} (h:x.low B) (k:x.touch?=some b):b.loc.low B:=by
 unfold MemAct.touch? at k;split at k
 .simp only[Option.some.injEq]at k;subst k;exact h
 .simp only[Option.some.injEq]at k;subst k;exact h
 .simp only[Option.some.injEq]at k;subst k;exact h
 .cases k
theorem ei {t:Trace} (h:touchAt t i=some a):∃op,t[i]?=some op/\op.act.touch?=some a:=by
 unfold touchAt Trace.act? at h;cases hi:t[i]? with
 |none=>rw[hi]at h;cases h
 |some op=>rw[hi]at h;exact⟨op,rfl,h⟩
theorem tM {fn:FuncId} {pos:String} (h:op∈MemOp.ofEvents g fn pos es):∃e∈es,op={g,fn,pos,act:=.ofEvent e}:=by
 unfold MemOp.ofEvents at h;split at h
 .simp at h
 .obtain⟨e,he,rfl⟩:=Array.mem_map.1 h;exact⟨e,he,rfl⟩
structure Co (A:Nat->Prop) (kn own:Nat->Nat->Prop) (B:Nat) (t:Trace):Prop where
 clean:∀said,¬Race said t
 calm:Calm t
 sub:∀g,A g->∀r,own g r->kn g r
 bound:∀g,A g->∀r,kn g r->r<B
 dj:∀g h,A g->A h->g≠h->∀r,own g r->¬kn h r
 kw:∀g,A g->∀i a r,touchAt t i=some a->iY a.loc r->kn g r->a.write=true->Knows t g i
 ko:∀g,A g->∀i a r,touchAt t i=some a->iY a.loc r->own g r->Knows t g i
 ho:∀i a,touchAt t i=some a->a.loc.isMemory=true->Knows t 0 i\/∃g,g≠0/\A g/\t.g? i=some g
 low:∀op∈t,op.act.low B
section
variable {A:Nat->Prop} {kn own:Nat->Nat->Prop} {B:Nat} {t u:Trace}
theorem Co.v6 (h:Co A kn own B t) (hi:touchAt t i=some a):a.loc.low B:=by
 obtain⟨op,h1,h2⟩:=ei hi;exact zo (h.low op (Array.mem_of_getElem? h1)) h2
theorem dW (h:touchAt (t++u) i=some a):touchAt t i=some a\/∃op,op∈u/\(t++u)[i]?=some op/\op.act.touch?=some a:=by
 obtain⟨op,h1,h2⟩:=ei h;rcases getElem?_append_cases h1 with⟨_,h3⟩|⟨_,h3⟩
 .exact .inl (by rw[touchAt_of h3];exact h2)
 .exact .inr ⟨op,h3,h1,h2⟩
theorem Co.app (h:Co A kn own B t) (hg:A g) {N:Nat->Prop} {B':Nat} (hB:B<=B') (hN:∀r,N r->B<=r/\r<B') (hu:∀op∈u,op.g=g) (hc:Calm u) (hl:∀op∈u,op.act.low B')
 (ht:∀op∈u,∀b,op.act.touch?=some b->b.loc.isMemory=true->∃r,iY b.loc r/\(kn g r\/N r)/\(b.write=true->own g r\/N r)):
 Co A (upd kn g fun r=>kn g r\/N r) (upd own g fun r=>own g r\/N r) B' (t++u):=by
 have pv:∀k r,upd kn g (fun r=>kn g r\/N r) k r↔(kn k r\/(k=g/\N r)):=by
  intro k r;by_cases e:k=g
  .subst e;rw[upd_same];simp
  .rw[upd_ne _ _ e];simp[e]
 have cr:∀k r,upd own g (fun r=>own g r\/N r) k r↔(own k r\/(k=g/\N r)):=by
  intro k r;by_cases e:k=g
  .subst e;rw[upd_same];simp
  .rw[upd_ne _ _ e];simp[e]
 have mem_of:∀{l:Loc} {r:Nat},iY l r->l.isMemory=true:=fun{l r} hl=>by rcases hl with⟨a,rfl,_⟩|rfl<;>rfl
 refine⟨fun said=>noRace_append (h.clean said) hu fun i a hi op bq b hb PN=>?_,h.calm.app hc,?_,?_,?_,?_,?_,?_,?_⟩
 .obtain⟨c1,c2,c3,_⟩:=PN;obtain⟨r,hr,hk,hw⟩:=ht op bq b hb (c1▸c2);have PO:iY a.loc r:=by rw[c1];exact hr
  have ao:r<B:=PO.low (h.v6 hi);have old:∀s,N s->s≠r:=fun s hs e=>by have:=(hN s hs).1;omega
  rcases c3 with c3|c3
  .exact h.kw g hg i a r hi PO (hk.resolve_right fun x=>old r x rfl) c3
  .exact h.ko g hg i a r hi PO ((hw c3).resolve_right fun x=>old r x rfl)
 .intro k hk r hr;rw[cr]at hr;rw[pv];exact hr.imp (h.sub k hk r) id
 .intro k hk r hr;rw[pv]at hr;rcases hr with hr|⟨_,hr⟩
  .exact Nat.lt_of_lt_of_le (h.bound k hk r hr) hB
  .exact(hN r hr).2
 .intro k l hk Oo bC r ho xV;rw[cr]at ho;rw[pv]at xV;rcases ho with ho|⟨rfl,ho⟩
  .rcases xV with xV|⟨rfl,xV⟩
   .exact h.dj k l hk Oo bC r ho xV
   .have:=h.bound k hk r (h.sub k hk r ho);have:=(hN r xV).1;omega
  .rcases xV with xV|⟨rfl,_⟩
   .have:=h.bound l Oo r xV;have:=(hN r ho).1;omega
   .exact bC rfl
 .intro k hk i a r hi hr tN hw;rw[pv]at tN;rcases dW hi with hi|⟨op,bq,KR,hb⟩
  .have ao:r<B:=hr.low (h.v6 hi);rcases tN with tN|⟨rfl,tN⟩
   .exact(h.kw k hk i a r hi hr tN hw).app u
   .have:=(hN r tN).1;omega
  .by_cases e:k=g
   .have:=knows_own KR;rw[hu op bq]at this;rw[e];exact this
   .obtain⟨r',h1,h2,h3⟩:=ht op bq a hb (mem_of hr);obtain rfl:=h1.inj hr;have TJ:kn k r':=tN.resolve_right fun x=>e x.1;rcases h3 hw with h3|h3
    .exact(h.dj g k hg hk (Ne.symm e) r' h3 TJ).elim
    .have:=(hN _ h3).1;have:=h.bound k hk _ TJ;omega
 .intro k hk i a r hi hr ho;rw[cr]at ho;rcases dW hi with hi|⟨op,bq,KR,hb⟩
  .have ao:r<B:=hr.low (h.v6 hi);rcases ho with ho|⟨rfl,ho⟩
   .exact(h.ko k hk i a r hi hr ho).app u
   .have:=(hN r ho).1;omega
  .by_cases e:k=g
   .have:=knows_own KR;rw[hu op bq]at this;rw[e];exact this
   .obtain⟨r',h1,h2,h3⟩:=ht op bq a hb (mem_of hr);obtain rfl:=h1.inj hr;have TK:own k r':=ho.resolve_right fun x=>e x.1;rcases h2 with h2|h2
    .exact(h.dj k g hk hg e r' TK h2).elim
    .have:=(hN _ h2).1;have:=h.bound k hk _ (h.sub k hk _ TK);omega
 .intro i a hi hm;rcases dW hi with hi|⟨op,bq,KR,hb⟩
  .rcases h.ho i a hi hm with h1|⟨k,h1,h2,h3⟩
   .exact .inl (h1.app u)
   .obtain⟨op,h4,_⟩:=ei hi;exact .inr ⟨k,h1,h2,by rw[g?_old (lt_size_of_getElem? h4)];exact h3⟩
  .by_cases e:g=0
   .have:=knows_own KR;rw[hu op bq,e]at this;exact .inl this
   .exact .inr ⟨g,e,hg,by simp only[Trace.g?,KR,Option.map_some,hu op bq]⟩
 .intro op bq;rcases Array.mem_append.1 bq with bq|bq
  .exact MemAct.low_mono hB (h.low op bq)
  .exact hl op bq
theorem pF {e:Event} (h:e.sync=false) (k:(∃a:Addr,e.loc=.cell a)\/∃r,e.loc=.obj r):MemAct.ofEvent e=.access e:=by
 obtain⟨l,w,s⟩:=e;simp only at h k;subst h;rcases k with⟨a,rfl⟩|⟨r,rfl⟩<;>cases w<;>rfl
theorem Co.step (h:Co A kn own B t) (hg:A g) {w w1:World} (hB:w.heap.size=B) (hf:Fair (kn g) (own g) w w1 es) (fn:FuncId) (pos:String):
 Co A (upd kn g (aq (kn g) w w1)) (upd own g (aq (own g) w w1)) w1.heap.size (t++MemOp.ofEvents g fn pos es):=by
 subst hB
 have Ej:∀op∈MemOp.ofEvents g fn pos es,op.g=g/\(op.act=.mark .noRoom\/∃e∈es,op.act=.access e/\e.sync=false/\∃r,aq (kn g) w w1 r/\iY e.loc r/\(e.write=true->aq (own g) w w1 r)):=by
  intro op bq;obtain⟨e,he,rfl⟩:=tM bq;refine⟨rfl,?_⟩;rcases hf.ev e he with rfl|⟨h1,r,h2,h3,h4⟩
  .exact .inl rfl
  .refine .inr ⟨e,he,pF h1 ?_,h1,r,h2,h3,h4⟩;rcases h3 with⟨a,h3,_⟩|h3
   .exact .inl ⟨a,h3⟩
   .exact .inr ⟨r,h3⟩
 have hr:∀r,aq (kn g) w w1 r->r<w1.heap.size:=fun r hr=>by
  rcases hr with hr|hr
  .exact Nat.lt_of_lt_of_le (h.bound g hg r hr) hf.size
  .exact hr.2
 refine h.app hg hf.size (fun r hr=>hr) (fun op bq=>(Ej op bq).1) (fun op bq=>?_) (fun op bq=>?_) fun op bq b hb hm=>?_
 .rcases(Ej op bq).2 with e|⟨e,_,h1,_⟩
  .rw[e];exact⟨by simp,by simp⟩
  .rw[h1];exact⟨by simp,by simp⟩
 .rcases(Ej op bq).2 with e|⟨e,_,h1,_,r,h2,h3,_⟩
  .rw[e];trivial
  .rw[h1];show e.loc.low _;rcases h3 with⟨a,h3,rfl⟩|h3
   .rw[h3];exact hr _ h2
   .rw[h3];exact hr _ h2
 .rcases(Ej op bq).2 with e|⟨e,_,h1,h0,r,h2,h3,h4⟩
  .rw[e]at hb;cases hb
  .rw[h1]at hb;simp only[MemAct.touch?,h0,Bool.false_eq_true,if_false,Option.some.injEq]at hb;subst hb;exact⟨r,h3,h2,h4⟩
theorem Co.mute (h:Co A kn own B t) (hu:∀op∈u,op.act.touch?=none) (hc:Calm u) (hl:∀op∈u,op.act.low B):Co A kn own B (t++u):=by
 have old:∀{i a},touchAt (t++u) i=some a->touchAt t i=some a:=fun{i a} hi=>by
  rcases dW hi with hi|⟨op,bq,_,hb⟩
  .exact hi
  .rw[hu op bq]at hb;cases hb
 refine⟨fun said=>?_,h.calm.app hc,h.sub,h.bound,h.dj,fun g hg i a r hi=>fun a1 a2 a3=>(h.kw g hg i a r (old hi) a1 a2 a3).app u,fun g hg i a r hi=>fun a1 a2=>(h.ko g hg i a r (old hi) a1 a2).app u,?_,?_⟩
 .rintro⟨i,j,lQ,⟨a,b,ha,hb,PN⟩,n1,n2⟩;exact h.clean said ⟨i,j,lQ,⟨a,b,old ha,old hb,PN⟩,fun x=>n1 (hb_app u x),fun x=>n2 (hb_app u x)⟩
 .intro i a hi hm;have hi:=old hi;rcases h.ho i a hi hm with h1|⟨k,h1,h2,h3⟩
  .exact .inl (h1.app u)
  .obtain⟨op,h4,_⟩:=ei hi;exact .inr ⟨k,h1,h2,by rw[g?_old (lt_size_of_getElem? h4)];exact h3⟩
 .intro op bq;rcases Array.mem_append.1 bq with bq|bq
  .exact h.low op bq
  .exact hl op bq
theorem Co.shrink (h:Co A kn own B t) {fk dn:Nat->Nat->Prop} (hk:∀g,A g->∀r,fk g r->kn g r) (ho:∀g,A g->∀r,dn g r->own g r) (hs:∀g,A g->∀r,dn g r->fk g r):Co A fk dn B t:=
 ⟨h.clean,h.calm,hs,fun g hg r hr=>h.bound g hg r (hk g hg r hr),fun g k hg vB bC r hr tN=>h.dj g k hg vB bC r (ho g hg r hr) (hk k vB r tN),
   fun g hg i a r hi hr tN hw=>h.kw g hg i a r hi hr (hk g hg r tN) hw,fun g hg i a r hi hr tN=>h.ko g hg i a r hi hr (ho g hg r tN),h.ho,h.low⟩
theorem Co.spawn (h:Co A kn own B t) (h0:A 0) (hc:c≠0) (hA:¬A c) {K k0 o0:Nat->Prop} (hK:∀r,K r->kn 0 r) (pg:∀r,k0 r->kn 0 r) (Lz:∀r,o0 r->own 0 r) (hs:∀r,o0 r->k0 r) (hd:∀r,o0 r->¬K r)
 (hx:x.g=0/\x.act=.go c) (hy:y.g=c/\y.act=.start):
 Co (fun g=>A g\/g=c) (upd (upd kn 0 k0) c K) (upd (upd own 0 o0) c fun _=>False) B (t++#[x,y]):=by
 have hm:Co A kn own B (t++#[x,y]):=by
  refine h.mute (fun op bq=>?_) (fun op bq=>?_) fun op bq=>?_
  all_goals
   have:op=x\/op=y:=by simpa using bq
   rcases this with rfl|rfl
  .rw[hx.2];rfl
  .rw[hy.2];rfl
  .rw[hx.2];exact⟨by simp,by simp⟩
  .rw[hy.2];exact⟨by simp,by simp⟩
  .rw[hx.2];trivial
  .rw[hy.2];trivial
 have pv:∀k,k≠c->∀r,upd (upd kn 0 k0) c K k r->kn k r:=by
  intro k hk r hr;rw[upd_ne _ _ hk]at hr;by_cases e:k=0
  .subst e;rw[upd_same]at hr;exact pg r hr
  .rwa [upd_ne _ _ e]at hr
 have cr:∀k,k≠c->∀r,upd (upd own 0 o0) c (fun _=>False) k r->own k r/\(k=0->o0 r):=by
  intro k hk r hr;rw[upd_ne _ _ hk]at hr;by_cases e:k=0
  .subst e;rw[upd_same]at hr;exact⟨Lz r hr,fun _=>hr⟩
  .rw[upd_ne _ _ e]at hr;exact⟨hr,fun x=>absurd x e⟩
 have v8:∀r,¬upd (upd own 0 o0) c (fun _=>False) c r:=fun r hr=>by rw[upd_same]at hr;exact hr
 have IF:∀k,(A k\/k=c)->k≠c->A k:=fun k hk bC=>hk.resolve_right bC;refine⟨hm.clean,hm.calm,?_,?_,?_,?_,?_,?_,hm.low⟩
 .intro k hk r hr;by_cases e:k=c
  .rw[e]at hr;exact(v8 r hr).elim
  .have h1:=cr k e r hr;rw[upd_ne _ _ e];by_cases e0:k=0
   .subst e0;rw[upd_same];exact hs r (h1.2 rfl)
   .rw[upd_ne _ _ e0];exact h.sub k (IF k hk e) r h1.1
 .intro k hk r hr;by_cases e:k=c
  .rw[e,upd_same]at hr;exact h.bound 0 h0 r (hK r hr)
  .exact h.bound k (IF k hk e) r (pv k e r hr)
 .intro k l hk hl bC r ho xV;by_cases e:k=c
  .rw[e]at ho;exact v8 r ho
  .have h1:=cr k e r ho;by_cases e2:l=c
   .rw[e2,upd_same]at xV;by_cases e0:k=0
    .exact hd r (h1.2 e0) xV
    .exact h.dj k 0 (IF k hk e) h0 e0 r h1.1 (hK r xV)
   .exact h.dj k l (IF k hk e) (IF l hl e2) bC r h1.1 (pv l e2 r xV)
 .intro k hk i a r hi hr tN hw;by_cases e:k=c
  .subst e;rw[upd_same]at tN;rcases dW hi with hi|⟨op,bq,_,hb⟩
   .exact fork_knows hx hy (h.calm.deaf _ _) (h.calm.deaf _ _) (h.kw 0 h0 i a r hi hr (hK r tN) hw)
   .have:op=x\/op=y:=by simpa using bq
    rcases this with rfl|rfl
    .rw[hx.2]at hb;cases hb
    .rw[hy.2]at hb;cases hb
  .exact hm.kw k (IF k hk e) i a r hi hr (pv k e r tN) hw
 .intro k hk i a r hi hr ho;by_cases e:k=c
  .rw[e]at ho;exact(v8 r ho).elim
  .exact hm.ko k (IF k hk e) i a r hi hr (cr k e r ho).1
 .intro i a hi ey;exact(hm.ho i a hi ey).imp id fun⟨g,h1,h2,h3⟩=>⟨g,h1,.inl h2,h3⟩
theorem Co.drop (h:Co A kn own B t) (hk:∀i a,touchAt t i=some a->t.g? i=some c->Knows t 0 i):Co (fun g=>A g/\g≠c) kn own B t:=
 ⟨h.clean,h.calm,fun g hg=>h.sub g hg.1,fun g hg=>h.bound g hg.1,fun g k hg vB=>h.dj g k hg.1 vB.1,fun g hg=>h.kw g hg.1,fun g hg=>h.ko g hg.1,
   fun i a hi hm=>by
    rcases h.ho i a hi hm with h1|⟨g,h1,h2,h3⟩
    .exact .inl h1
    .by_cases e:g=c
     .exact .inl (hk i a hi (e▸h3))
     .exact .inr ⟨g,h1,⟨h2,e⟩,h3⟩,h.low⟩
theorem handed (hc:Calm (t++u)) {j k m:Nat} (hx:u[k]?=some x) (VJ:x.g=j) (VK:x.act=.send c s) (hy:u[m]?=some y) (VL:y.g=0) (VM:y.act=.recvDone c s) (hi:t.g? i=some j):Knows (t++u) 0 i:=by
 have tg:(t++u)[t.size+k]?=some x:=by rw[Array.getElem?_append_right (by omega)];simpa using hx
 have PP:(t++u)[t.size+m]?=some y:=by rw[Array.getElem?_append_right (by omega)];simpa using hy
 obtain⟨z,hz⟩:∃z,t[i]?=some z:=by
  unfold Trace.g? at hi;cases hz:t[i]? with
  |none=>rw[hz]at hi;cases hi
  |some z=>exact⟨z,rfl⟩
 have VN:z.g=j:=by unfold Trace.g? at hi;rw[hz]at hi;simpa using hi
 have ao:=lt_size_of_getElem? hz;have h1:HappensBefore (t++u) i (t.size+k):=hb_po (by omega) (by rw[getElem?_append_old ao];exact hz) tg (VN.trans VJ.symm);exact⟨t.size+m,y,PP,VL,.inr (h1.trans (.single (.inr ⟨.handOver (c:=c) (k:=s) (by rw[act?_of tg,VK]) (by rw[act?_of PP,VM]),hc.heard tg,hc.heard PP⟩)))⟩
theorem Co.handedOver (h:Co A kn own B t) (hA:∀g,A g->g=0):t.HandedOver:=by
 intro i g hg Ek ⟨x,hx,hm,_⟩;rcases h.ho i x hx hm with⟨q,z,h1,h2,h3⟩|⟨k,h1,h2,_⟩
 .rcases h3 with rfl|h3
  .exfalso;simp only[Trace.g?,h1,Option.map_some,Option.some.injEq]at hg;exact Ek (hg.symm.trans h2)
  .exact⟨q,by simp[Trace.g?,h1,h2],h3⟩
 .exact absurd (hA k h2) h1
theorem Co.nil (A:Nat->Prop) (hA:∀g,A g->g=0) {k o:Nat->Prop} {B:Nat} (hk:∀r,k r->r<B) (ho:∀r,o r->k r):Co A (fun _=>k) (fun _=>o) B #[]:=
 ⟨fun said ⟨i,j,_,⟨a,b,ha,_⟩,_⟩=>by simp[Trace.act?]at ha,fun op bq=>by simp at bq,fun _ _=>ho,fun _ _=>hk,fun g k hg hk bC=>absurd ((hA g hg).trans (hA k hk).symm) bC,
   fun g _ i a r hi=>by simp[touchAt,Trace.act?]at hi,fun g _ i a r hi=>by simp[touchAt,Trace.act?]at hi,fun i a hi=>by simp[touchAt,Trace.act?]at hi,fun op bq=>by simp at bq⟩
end
end Go.aB
