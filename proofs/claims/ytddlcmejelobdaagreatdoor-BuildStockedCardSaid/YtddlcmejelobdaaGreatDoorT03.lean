/- A part. Conditions: none. -/
import Derived.Test.YtddlcmejelobdaaGreatDoorT02
import Derived.Conc.Beside
import Derived.Conc.CrowdTrace
set_option linter.all false
namespace Go.aq
open Go.Conc
open Go.ConcN (upd upd_same upd_ne fork_knows)
variable {a:Touch} {c g i r s:Nat} {es:Array Event} {l:Loc} {op x y:MemOp}
def km (l:Loc) (r:Nat):Prop:=(∃a:Addr,l=.cell a/\a.block=r)\/l=.obj r
theorem km.inj (h:km l r) (k:km l s):r=s:=by
 rcases h with⟨a,h,rfl⟩|h<;>rcases k with⟨b,k,rfl⟩|k<;>rw[h]at k<;>cases k<;>rfl
theorem km.low {B:Nat} (h:km l r) (k:l.low B):r<B:=by
 rcases h with⟨a,rfl,rfl⟩|rfl<;>exact k
def Calm (t:Trace):Prop:=∀op∈t,op.act≠ .mark .disable/\op.act≠ .mark .enable
theorem Calm.deaf {t:Trace} (h:Calm t) (g:Nat):∀i,t.deaf g i=0:=by
 intro i;induction i with
 |zero=>rfl
 |succ i ih=>
  cases hy:t[i]? with
  |none=>simp only[Trace.deaf,hy];exact ih
  |some y=>
   rw[deaf_succ hy,ih];have:=h y (Array.mem_of_getElem? hy);unfold deafStep;split
   .exact absurd (by assumption) this.1
   .exact absurd (by assumption) this.2
   .rfl
theorem Calm.app {t u:Trace} (h:Calm t) (k:Calm u):Calm (t++u):=fun op bJ=>(Array.mem_append.1 bJ).elim (h op) (k op)
theorem Calm.heard {t:Trace} (h:Calm t) (hi:t[i]?=some op):t.heard i:=⟨op.g,by simp[Trace.g?,hi],h.deaf _ _⟩
theorem EX {x:MemAct} {B:Nat} {b:Touch} (h:x.low B) (k:x.touch?=some b):b.loc.low B:=by
 unfold MemAct.touch? at k;split at k
 .simp only[Option.some.injEq]at k;subst k;exact h
 .simp only[Option.some.injEq]at k;subst k;exact h
 .simp only[Option.some.injEq]at k;subst k;exact h
 .cases k
theorem fG {t:Trace} (h:touchAt t i=some a):∃op,t[i]?=some op/\op.act.touch?=some a:=by
 unfold touchAt Trace.act? at h;cases hi:t[i]? with
 |none=>rw[hi]at h;cases h
 |some op=>rw[hi]at h;exact⟨op,rfl,h⟩
theorem yp {fn:FuncId} {pos:String} (h:op∈MemOp.ofEvents g fn pos es):∃e∈es,op={g,fn,pos,act:=.ofEvent e}:=by
 unfold MemOp.ofEvents at h;split at h
 .simp at h
 .obtain⟨e,he,rfl⟩:=Array.mem_map.1 h;exact⟨e,he,rfl⟩
structure Co (A:Nat->Prop) (kn own:Nat->Nat->Prop) (B:Nat) (t:Trace):Prop where
 clean:∀said,¬Race said t
 calm:Calm t
 sub:∀g,A g->∀r,own g r->kn g r
 bound:∀g,A g->∀r,kn g r->r<B
 dj:∀g h,A g->A h->g≠h->∀r,own g r->¬kn h r
 kw:∀g,A g->∀i a r,touchAt t i=some a->km a.loc r->kn g r->a.write=true->Knows t g i
 ko:∀g,A g->∀i a r,touchAt t i=some a->km a.loc r->own g r->Knows t g i
 ho:∀i a,touchAt t i=some a->a.loc.isMemory=true->Knows t 0 i\/∃g,g≠0/\A g/\t.g? i=some g
 low:∀op∈t,op.act.low B
section
variable {A:Nat->Prop} {kn own:Nat->Nat->Prop} {B:Nat} {t u:Trace}
theorem Co.Ba (h:Co A kn own B t) (hi:touchAt t i=some a):a.loc.low B:=by
 obtain⟨op,h1,h2⟩:=fG hi;exact EX (h.low op (Array.mem_of_getElem? h1)) h2
theorem fx (h:touchAt (t++u) i=some a):touchAt t i=some a\/∃op,op∈u/\(t++u)[i]?=some op/\op.act.touch?=some a:=by
 obtain⟨op,h1,h2⟩:=fG h;rcases getElem?_append_cases h1 with⟨_,h3⟩|⟨_,h3⟩
 .exact .inl (by rw[touchAt_of h3];exact h2)
 .exact .inr ⟨op,h3,h1,h2⟩
theorem Co.app (h:Co A kn own B t) (hg:A g) {N:Nat->Prop} {B':Nat} (hB:B<=B') (hN:∀r,N r->B<=r/\r<B') (hu:∀op∈u,op.g=g) (hc:Calm u) (hl:∀op∈u,op.act.low B')
 (ht:∀op∈u,∀b,op.act.touch?=some b->b.loc.isMemory=true->∃r,km b.loc r/\(kn g r\/N r)/\(b.write=true->own g r\/N r)):
 Co A (upd kn g fun r=>kn g r\/N r) (upd own g fun r=>own g r\/N r) B' (t++u):=by
 have uj:∀k r,upd kn g (fun r=>kn g r\/N r) k r↔(kn k r\/(k=g/\N r)):=by
  intro k r;by_cases e:k=g
  .subst e;rw[upd_same];simp
  .rw[upd_ne _ _ e];simp[e]
 have bO:∀k r,upd own g (fun r=>own g r\/N r) k r↔(own k r\/(k=g/\N r)):=by
  intro k r;by_cases e:k=g
  .subst e;rw[upd_same];simp
  .rw[upd_ne _ _ e];simp[e]
 have mem_of:∀{l:Loc} {r:Nat},km l r->l.isMemory=true:=fun{l r} hl=>by rcases hl with⟨a,rfl,_⟩|rfl<;>rfl
 refine⟨fun said=>noRace_append (h.clean said) hu fun i a hi op bJ b hb YK=>?_,h.calm.app hc,?_,?_,?_,?_,?_,?_,?_⟩
 .obtain⟨c1,c2,c3,_⟩:=YK;obtain⟨r,hr,hk,hw⟩:=ht op bJ b hb (c1▸c2);have YL:km a.loc r:=by rw[c1];exact hr
  have ar:r<B:=YL.low (h.Ba hi);have old:∀s,N s->s≠r:=fun s hs e=>by have:=(hN s hs).1;omega
  rcases c3 with c3|c3
  .exact h.kw g hg i a r hi YL (hk.resolve_right fun x=>old r x rfl) c3
  .exact h.ko g hg i a r hi YL ((hw c3).resolve_right fun x=>old r x rfl)
 .intro k hk r hr;rw[bO]at hr;rw[uj];exact hr.imp (h.sub k hk r) id
 .intro k hk r hr;rw[uj]at hr;rcases hr with hr|⟨_,hr⟩
  .exact Nat.lt_of_lt_of_le (h.bound k hk r hr) hB
  .exact(hN r hr).2
 .intro k l hk WS bC r ho rJ;rw[bO]at ho;rw[uj]at rJ;rcases ho with ho|⟨rfl,ho⟩
  .rcases rJ with rJ|⟨rfl,rJ⟩
   .exact h.dj k l hk WS bC r ho rJ
   .have:=h.bound k hk r (h.sub k hk r ho);have:=(hN r rJ).1;omega
  .rcases rJ with rJ|⟨rfl,_⟩
   .have:=h.bound l WS r rJ;have:=(hN r ho).1;omega
   .exact bC rfl
 .intro k hk i a r hi hr yq hw;rw[uj]at yq;rcases fx hi with hi|⟨op,bJ,SA,hb⟩
  .have ar:r<B:=hr.low (h.Ba hi);rcases yq with yq|⟨rfl,yq⟩
   .exact(h.kw k hk i a r hi hr yq hw).app u
   .have:=(hN r yq).1;omega
  .by_cases e:k=g
   .have:=knows_own SA;rw[hu op bJ]at this;rw[e];exact this
   .obtain⟨r',h1,h2,h3⟩:=ht op bJ a hb (mem_of hr);obtain rfl:=h1.inj hr;have hkk:kn k r':=yq.resolve_right fun x=>e x.1;rcases h3 hw with h3|h3
    .exact(h.dj g k hg hk (Ne.symm e) r' h3 hkk).elim
    .have:=(hN _ h3).1;have:=h.bound k hk _ hkk;omega
 .intro k hk i a r hi hr ho;rw[bO]at ho;rcases fx hi with hi|⟨op,bJ,SA,hb⟩
  .have ar:r<B:=hr.low (h.Ba hi);rcases ho with ho|⟨rfl,ho⟩
   .exact(h.ko k hk i a r hi hr ho).app u
   .have:=(hN r ho).1;omega
  .by_cases e:k=g
   .have:=knows_own SA;rw[hu op bJ]at this;rw[e];exact this
   .obtain⟨r',h1,h2,h3⟩:=ht op bJ a hb (mem_of hr);obtain rfl:=h1.inj hr;have hko:own k r':=ho.resolve_right fun x=>e x.1;rcases h2 with h2|h2
    .exact(h.dj k g hk hg e r' hko h2).elim
    .have:=(hN _ h2).1;have:=h.bound k hk _ (h.sub k hk _ hko);omega
 .intro i a hi hm;rcases fx hi with hi|⟨op,bJ,SA,hb⟩
  .rcases h.ho i a hi hm with h1|⟨k,h1,h2,h3⟩
   .exact .inl (h1.app u)
   .obtain⟨op,h4,_⟩:=fG hi;exact .inr ⟨k,h1,h2,by rw[g?_old (lt_size_of_getElem? h4)];exact h3⟩
  .by_cases e:g=0
   .have:=knows_own SA;rw[hu op bJ,e]at this;exact .inl this
   .exact .inr ⟨g,e,hg,by simp only[Trace.g?,SA,Option.map_some,hu op bJ]⟩
 .intro op bJ;rcases Array.mem_append.1 bJ with bJ|bJ
  .exact MemAct.low_mono hB (h.low op bJ)
  .exact hl op bJ
theorem tG {e:Event} (h:e.sync=false) (k:(∃a:Addr,e.loc=.cell a)\/∃r,e.loc=.obj r):MemAct.ofEvent e=.access e:=by
 obtain⟨l,w,s⟩:=e;simp only at h k;subst h;rcases k with⟨a,rfl⟩|⟨r,rfl⟩<;>cases w<;>rfl
theorem Co.step (h:Co A kn own B t) (hg:A g) {w w1:World} (hB:w.heap.size=B) (hf:Fair (kn g) (own g) w w1 es) (fn:FuncId) (pos:String):
 Co A (upd kn g (aE (kn g) w w1)) (upd own g (aE (own g) w w1)) w1.heap.size (t++MemOp.ofEvents g fn pos es):=by
 subst hB
 have Lu:∀op∈MemOp.ofEvents g fn pos es,op.g=g/\(op.act=.mark .noRoom\/∃e∈es,op.act=.access e/\e.sync=false/\∃r,aE (kn g) w w1 r/\km e.loc r/\(e.write=true->aE (own g) w w1 r)):=by
  intro op bJ;obtain⟨e,he,rfl⟩:=yp bJ;refine⟨rfl,?_⟩;rcases hf.ev e he with rfl|⟨h1,r,h2,h3,h4⟩
  .exact .inl rfl
  .refine .inr ⟨e,he,tG h1 ?_,h1,r,h2,h3,h4⟩;rcases h3 with⟨a,h3,_⟩|h3
   .exact .inl ⟨a,h3⟩
   .exact .inr ⟨r,h3⟩
 have hr:∀r,aE (kn g) w w1 r->r<w1.heap.size:=fun r hr=>by
  rcases hr with hr|hr
  .exact Nat.lt_of_lt_of_le (h.bound g hg r hr) hf.size
  .exact hr.2
 refine h.app hg hf.size (fun r hr=>hr) (fun op bJ=>(Lu op bJ).1) (fun op bJ=>?_) (fun op bJ=>?_) fun op bJ b hb hm=>?_
 .rcases(Lu op bJ).2 with e|⟨e,_,h1,_⟩
  .rw[e];exact⟨by simp,by simp⟩
  .rw[h1];exact⟨by simp,by simp⟩
 .rcases(Lu op bJ).2 with e|⟨e,_,h1,_,r,h2,h3,_⟩
  .rw[e];trivial
  .rw[h1];show e.loc.low _;rcases h3 with⟨a,h3,rfl⟩|h3
   .rw[h3];exact hr _ h2
   .rw[h3];exact hr _ h2
 .rcases(Lu op bJ).2 with e|⟨e,_,h1,h0,r,h2,h3,h4⟩
  .rw[e]at hb;cases hb
  .rw[h1]at hb;simp only[MemAct.touch?,h0,Bool.false_eq_true,if_false,Option.some.injEq]at hb;subst hb;exact⟨r,h3,h2,h4⟩
theorem Co.mute (h:Co A kn own B t) (hu:∀op∈u,op.act.touch?=none) (hc:Calm u) (hl:∀op∈u,op.act.low B):Co A kn own B (t++u):=by
 have old:∀{i a},touchAt (t++u) i=some a->touchAt t i=some a:=fun{i a} hi=>by
  rcases fx hi with hi|⟨op,bJ,_,hb⟩
  .exact hi
  .rw[hu op bJ]at hb;cases hb
 refine⟨fun said=>?_,h.calm.app hc,h.sub,h.bound,h.dj,fun g hg i a r hi=>fun a1 a2 a3=>(h.kw g hg i a r (old hi) a1 a2 a3).app u,fun g hg i a r hi=>fun a1 a2=>(h.ko g hg i a r (old hi) a1 a2).app u,?_,?_⟩
 .rintro⟨i,j,qH,⟨a,b,ha,hb,YK⟩,n1,n2⟩;exact h.clean said ⟨i,j,qH,⟨a,b,old ha,old hb,YK⟩,fun x=>n1 (hb_app u x),fun x=>n2 (hb_app u x)⟩
 .intro i a hi hm;have hi:=old hi;rcases h.ho i a hi hm with h1|⟨k,h1,h2,h3⟩
  .exact .inl (h1.app u)
  .obtain⟨op,h4,_⟩:=fG hi;exact .inr ⟨k,h1,h2,by rw[g?_old (lt_size_of_getElem? h4)];exact h3⟩
 .intro op bJ;rcases Array.mem_append.1 bJ with bJ|bJ
  .exact h.low op bJ
  .exact hl op bJ
theorem Co.shrink (h:Co A kn own B t) {gV dX:Nat->Nat->Prop} (hk:∀g,A g->∀r,gV g r->kn g r) (ho:∀g,A g->∀r,dX g r->own g r) (hs:∀g,A g->∀r,dX g r->gV g r):Co A gV dX B t:=
 ⟨h.clean,h.calm,hs,fun g hg r hr=>h.bound g hg r (hk g hg r hr),fun g k hg xA bC r hr yq=>h.dj g k hg xA bC r (ho g hg r hr) (hk k xA r yq),
   fun g hg i a r hi hr yq hw=>h.kw g hg i a r hi hr (hk g hg r yq) hw,fun g hg i a r hi hr yq=>h.ko g hg i a r hi hr (ho g hg r yq),h.ho,h.low⟩
theorem Co.spawn (h:Co A kn own B t) (h0:A 0) (hc:c≠0) (hA:¬A c) {K k0 o0:Nat->Prop} (hK:∀r,K r->kn 0 r) (rh:∀r,k0 r->kn 0 r) (Yz:∀r,o0 r->own 0 r) (hs:∀r,o0 r->k0 r) (hd:∀r,o0 r->¬K r)
 (hx:x.g=0/\x.act=.go c) (hy:y.g=c/\y.act=.start):
 Co (fun g=>A g\/g=c) (upd (upd kn 0 k0) c K) (upd (upd own 0 o0) c fun _=>False) B (t++#[x,y]):=by
 have hm:Co A kn own B (t++#[x,y]):=by
  refine h.mute (fun op bJ=>?_) (fun op bJ=>?_) fun op bJ=>?_
  all_goals
   have:op=x\/op=y:=by simpa using bJ
   rcases this with rfl|rfl
  .rw[hx.2];rfl
  .rw[hy.2];rfl
  .rw[hx.2];exact⟨by simp,by simp⟩
  .rw[hy.2];exact⟨by simp,by simp⟩
  .rw[hx.2];trivial
  .rw[hy.2];trivial
 have uj:∀k,k≠c->∀r,upd (upd kn 0 k0) c K k r->kn k r:=by
  intro k hk r hr;rw[upd_ne _ _ hk]at hr;by_cases e:k=0
  .subst e;rw[upd_same]at hr;exact rh r hr
  .rwa [upd_ne _ _ e]at hr
 have bO:∀k,k≠c->∀r,upd (upd own 0 o0) c (fun _=>False) k r->own k r/\(k=0->o0 r):=by
  intro k hk r hr;rw[upd_ne _ _ hk]at hr;by_cases e:k=0
  .subst e;rw[upd_same]at hr;exact⟨Yz r hr,fun _=>hr⟩
  .rw[upd_ne _ _ e]at hr;exact⟨hr,fun x=>absurd x e⟩
 have Bb:∀r,¬upd (upd own 0 o0) c (fun _=>False) c r:=fun r hr=>by rw[upd_same]at hr;exact hr
 have Pz:∀k,(A k\/k=c)->k≠c->A k:=fun k hk bC=>hk.resolve_right bC;refine⟨hm.clean,hm.calm,?_,?_,?_,?_,?_,?_,hm.low⟩
 .intro k hk r hr;by_cases e:k=c
  .rw[e]at hr;exact(Bb r hr).elim
  .have h1:=bO k e r hr;rw[upd_ne _ _ e];by_cases e0:k=0
   .subst e0;rw[upd_same];exact hs r (h1.2 rfl)
   .rw[upd_ne _ _ e0];exact h.sub k (Pz k hk e) r h1.1
 .intro k hk r hr;by_cases e:k=c
  .rw[e,upd_same]at hr;exact h.bound 0 h0 r (hK r hr)
  .exact h.bound k (Pz k hk e) r (uj k e r hr)
 .intro k l hk hl bC r ho rJ;by_cases e:k=c
  .rw[e]at ho;exact Bb r ho
  .have h1:=bO k e r ho;by_cases e2:l=c
   .rw[e2,upd_same]at rJ;by_cases e0:k=0
    .exact hd r (h1.2 e0) rJ
    .exact h.dj k 0 (Pz k hk e) h0 e0 r h1.1 (hK r rJ)
   .exact h.dj k l (Pz k hk e) (Pz l hl e2) bC r h1.1 (uj l e2 r rJ)
 .intro k hk i a r hi hr yq hw;by_cases e:k=c
  .subst e;rw[upd_same]at yq;rcases fx hi with hi|⟨op,bJ,_,hb⟩
   .exact fork_knows hx hy (h.calm.deaf _ _) (h.calm.deaf _ _) (h.kw 0 h0 i a r hi hr (hK r yq) hw)
   .have:op=x\/op=y:=by simpa using bJ
    rcases this with rfl|rfl
    .rw[hx.2]at hb;cases hb
    .rw[hy.2]at hb;cases hb
  .exact hm.kw k (Pz k hk e) i a r hi hr (uj k e r yq) hw
 .intro k hk i a r hi hr ho;by_cases e:k=c
  .rw[e]at ho;exact(Bb r ho).elim
  .exact hm.ko k (Pz k hk e) i a r hi hr (bO k e r ho).1
 .intro i a hi dY;exact(hm.ho i a hi dY).imp id fun⟨g,h1,h2,h3⟩=>⟨g,h1,.inl h2,h3⟩
theorem Co.drop (h:Co A kn own B t) (hk:∀i a,touchAt t i=some a->t.g? i=some c->Knows t 0 i):Co (fun g=>A g/\g≠c) kn own B t:=
 ⟨h.clean,h.calm,fun g hg=>h.sub g hg.1,fun g hg=>h.bound g hg.1,fun g k hg xA=>h.dj g k hg.1 xA.1,fun g hg=>h.kw g hg.1,fun g hg=>h.ko g hg.1,
   fun i a hi hm=>by
    rcases h.ho i a hi hm with h1|⟨g,h1,h2,h3⟩
    .exact .inl h1
    .by_cases e:g=c
     .exact .inl (hk i a hi (e▸h3))
     .exact .inr ⟨g,h1,⟨h2,e⟩,h3⟩,h.low⟩
theorem handed (hc:Calm (t++u)) {j k m:Nat} (hx:u[k]?=some x) (hxg:x.g=j) (hxa:x.act=.send c s) (hy:u[m]?=some y) (hyg:y.g=0) (hya:y.act=.recvDone c s) (hi:t.g? i=some j):Knows (t++u) 0 i:=by
 have uk:(t++u)[t.size+k]?=some x:=by rw[Array.getElem?_append_right (by omega)];simpa using hx
 have YM:(t++u)[t.size+m]?=some y:=by rw[Array.getElem?_append_right (by omega)];simpa using hy
 obtain⟨z,hz⟩:∃z,t[i]?=some z:=by
  unfold Trace.g? at hi;cases hz:t[i]? with
  |none=>rw[hz]at hi;cases hi
  |some z=>exact⟨z,rfl⟩
 have hzg:z.g=j:=by unfold Trace.g? at hi;rw[hz]at hi;simpa using hi
 have ar:=lt_size_of_getElem? hz;have h1:HappensBefore (t++u) i (t.size+k):=hb_po (by omega) (by rw[getElem?_append_old ar];exact hz) uk (hzg.trans hxg.symm);exact⟨t.size+m,y,YM,hyg,.inr (h1.trans (.single (.inr ⟨.handOver (c:=c) (k:=s) (by rw[act?_of uk,hxa]) (by rw[act?_of YM,hya]),hc.heard uk,hc.heard YM⟩)))⟩
theorem Co.handedOver (h:Co A kn own B t) (hA:∀g,A g->g=0):t.HandedOver:=by
 intro i g hg PA ⟨x,hx,hm,_⟩;rcases h.ho i x hx hm with⟨q,z,h1,h2,h3⟩|⟨k,h1,h2,_⟩
 .rcases h3 with rfl|h3
  .exfalso;simp only[Trace.g?,h1,Option.map_some,Option.some.injEq]at hg;exact PA (hg.symm.trans h2)
  .exact⟨q,by simp[Trace.g?,h1,h2],h3⟩
 .exact absurd (hA k h2) h1
theorem Co.nil (A:Nat->Prop) (hA:∀g,A g->g=0) {k o:Nat->Prop} {B:Nat} (hk:∀r,k r->r<B) (ho:∀r,o r->k r):Co A (fun _=>k) (fun _=>o) B #[]:=
 ⟨fun said ⟨i,j,_,⟨a,b,ha,_⟩,_⟩=>by simp[Trace.act?]at ha,fun op bJ=>by simp at bJ,fun _ _=>ho,fun _ _=>hk,fun g k hg hk bC=>absurd ((hA g hg).trans (hA k hk).symm) bC,
   fun g _ i a r hi=>by simp[touchAt,Trace.act?]at hi,fun g _ i a r hi=>by simp[touchAt,Trace.act?]at hi,fun i a hi=>by simp[touchAt,Trace.act?]at hi,fun op bJ=>by simp at bJ⟩
end
end Go.aq
