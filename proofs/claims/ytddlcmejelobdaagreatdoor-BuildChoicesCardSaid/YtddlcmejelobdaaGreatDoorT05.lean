/- A part. Conditions: none. -/
import Derived.Test.YtddlcmejelobdaaGreatDoorT04
import Derived.Conc.Beside
import Derived.Conc.CrowdTrace
set_option linter.all false
namespace Go.aD
open Go.Conc
open Go.ConcN (upd upd_same upd_ne fork_knows)
variable {a:Touch} {c g i r s:Nat} {es:Array Event} {l:Loc} {op x y:MemOp}
def mQ (l:Loc) (r:Nat):Prop:=(∃a:Addr,l=.cell a/\a.block=r)\/l=.obj r
def mQ.inj (h:mQ l r) (k:mQ l s):r=s:=by
 rcases h with⟨a,h,rfl⟩|h<;>rcases k with⟨b,k,rfl⟩|k<;>rw[h]at k<;>cases k<;>rfl
def mQ.low {B:Nat} (h:mQ l r) (k:l.low B):r<B:=by
 rcases h with⟨a,rfl,rfl⟩|rfl<;>exact k
def Calm (t:Trace):Prop:=∀op∈t,op.act≠ .mark .disable/\op.act≠ .mark .enable
def Calm.deaf {t:Trace} (h:Calm t) (g:Nat):∀i,t.deaf g i=0:=by
 intro i;induction i with
 |zero=>rfl
 |succ i ih=>
  cases hy:t[i]? with
  |none=>simp only[Trace.deaf,hy];exact ih
  |some y=>
   rw[deaf_succ hy,ih];have:=h y (zDN hy);unfold deafStep;split
   .exact absurd (by assumption) this.1
   .exact absurd (by assumption) this.2
   .rfl
def Calm.app {t u:Trace} (h:Calm t) (k:Calm u):Calm (t++u):=λop cr=>(zEA.1 cr).elim (h op) (k op)
def Calm.heard {t:Trace} (h:Calm t) (hi:t[i]?=some op):t.heard i:=⟨op.g,by simp[Trace.g?,hi],h.deaf _ _⟩
def JM {x:MemAct} {B:Nat} {b:Touch} (h:x.low B) (k:x.touch?=some b):b.loc.low B:=by
 unfold MemAct.touch? at k;split at k
 .simp only[zAB]at k;subst k;exact h
 .simp only[zAB]at k;subst k;exact h
 .simp only[zAB]at k;subst k;exact h
 .cases k
def ic {t:Trace} (h:touchAt t i=some a):∃op,t[i]?=some op/\op.act.touch?=some a:=by
 unfold touchAt Trace.act? at h;cases hi:t[i]? with
 |none=>rw[hi]at h;cases h
 |some op=>rw[hi]at h;exact⟨op,rfl,h⟩
def Cq {fn:FuncId} {pos:String} (h:op∈MemOp.ofEvents g fn pos es):∃e∈es,op={g,fn,pos,act:=.ofEvent e}:=by
 unfold MemOp.ofEvents at h;split at h
 .simp at h
 .obtain⟨e,he,rfl⟩:=Array.mem_map.1 h;exact⟨e,he,rfl⟩
structure Co (A:Nat->Prop) (kn own:Nat->Nat->Prop) (B:Nat) (t:Trace):Prop where
 clean:∀said,¬Race said t
 calm:Calm t
 sub:∀g,A g->∀r,own g r->kn g r
 bound:∀g,A g->∀r,kn g r->r<B
 dj:∀g h,A g->A h->g≠h->∀r,own g r->¬kn h r
 kw:∀g,A g->∀i a r,touchAt t i=some a->mQ a.loc r->kn g r->a.write=true->Knows t g i
 ko:∀g,A g->∀i a r,touchAt t i=some a->mQ a.loc r->own g r->Knows t g i
 ho:∀i a,touchAt t i=some a->a.loc.isMemory=true->Knows t 0 i\/∃g,g≠0/\A g/\t.g? i=some g
 low:∀op∈t,op.act.low B
section
variable {A:Nat->Prop} {kn own:Nat->Nat->Prop} {B:Nat} {t u:Trace}
def Co.Fv (h:Co A kn own B t) (hi:touchAt t i=some a):a.loc.low B:=by
 obtain⟨op,h1,h2⟩:=ic hi;exact JM (h.low op (zDN h1)) h2
def gT (h:touchAt (t++u) i=some a):touchAt t i=some a\/∃op,op∈u/\(t++u)[i]?=some op/\op.act.touch?=some a:=by
 obtain⟨op,h1,h2⟩:=ic h;rcases getElem?_append_cases h1 with⟨_,h3⟩|⟨_,h3⟩
 .exact .inl (by rw[touchAt_of h3];exact h2)
 .exact .inr ⟨op,h3,h1,h2⟩
def Co.app (h:Co A kn own B t) (hg:A g) {N:Nat->Prop} {B':Nat} (hB:B<=B') (hN:∀r,N r->B<=r/\r<B') (hu:∀op∈u,op.g=g) (hc:Calm u) (hl:∀op∈u,op.act.low B')
 (ht:∀op∈u,∀b,op.act.touch?=some b->b.loc.isMemory=true->∃r,mQ b.loc r/\(kn g r\/N r)/\(b.write=true->own g r\/N r)):
 Co A (upd kn g λr=>kn g r\/N r) (upd own g λr=>own g r\/N r) B' (t++u):=by
 have yu:∀k r,upd kn g (λr=>kn g r\/N r) k r↔(kn k r\/(k=g/\N r)):=by
  intro k r;by_cases e:k=g
  .subst e;rw[upd_same];simp
  .rw[upd_ne _ _ e];simp[e]
 have cq:∀k r,upd own g (λr=>own g r\/N r) k r↔(own k r\/(k=g/\N r)):=by
  intro k r;by_cases e:k=g
  .subst e;rw[upd_same];simp
  .rw[upd_ne _ _ e];simp[e]
 have mem_of:∀{l:Loc} {r:Nat},mQ l r->l.isMemory=true:=λ{l r} hl=>by rcases hl with⟨a,rfl,_⟩|rfl<;>rfl
 refine⟨λsaid=>noRace_append (h.clean said) hu λi a hi op cr b hb hcf=>?_,h.calm.app hc,?_,?_,?_,?_,?_,?_,?_⟩
 .obtain⟨c1,c2,c3,_⟩:=hcf;obtain⟨r,hr,hk,hw⟩:=ht op cr b hb (c1▸c2);have hra:mQ a.loc r:=by rw[c1];exact hr
  have au:=hra.low (h.Fv hi);have old:∀s,N s->s≠r:=λs hs e=>by have:=(hN s hs).1;omega
  rcases c3 with c3|c3
  .exact h.kw g hg i a r hi hra (hk.resolve_right λx=>old r x rfl) c3
  .exact h.ko g hg i a r hi hra ((hw c3).resolve_right λx=>old r x rfl)
 .intro k hk r hr;rw[cq]at hr;rw[yu];exact hr.imp (h.sub k hk r) id
 .intro k hk r hr;rw[yu]at hr;rcases hr with hr|⟨_,hr⟩
  .exact zAZ (h.bound k hk r hr) hB
  .exact(hN r hr).2
 .intro k l hk hl' bu r ho qu;rw[cq]at ho;rw[yu]at qu;rcases ho with ho|⟨rfl,ho⟩
  .rcases qu with qu|⟨rfl,qu⟩
   .exact h.dj k l hk hl' bu r ho qu
   .have:=h.bound k hk r (h.sub k hk r ho);have:=(hN r qu).1;omega
  .rcases qu with qu|⟨rfl,_⟩
   .have:=h.bound l hl' r qu;have:=(hN r ho).1;omega
   .exact bu rfl
 .intro k hk i a r hi hr Cr hw;rw[yu]at Cr;rcases gT hi with hi|⟨op,cr,Vl,hb⟩
  .have au:=hr.low (h.Fv hi);rcases Cr with Cr|⟨rfl,Cr⟩
   .exact(h.kw k hk i a r hi hr Cr hw).app u
   .have:=(hN r Cr).1;omega
  .by_cases e:k=g
   .have:=knows_own Vl;rw[hu op cr]at this;rw[e];exact this
   .obtain⟨r',h1,h2,h3⟩:=ht op cr a hb (mem_of hr);obtain rfl:=h1.inj hr;have Yj:=Cr.resolve_right λx=>e x.1;rcases h3 hw with h3|h3
    .exact(h.dj g k hg hk (Ne.symm e) r' h3 Yj).elim
    .have:=(hN _ h3).1;have:=h.bound k hk _ Yj;omega
 .intro k hk i a r hi hr ho;rw[cq]at ho;rcases gT hi with hi|⟨op,cr,Vl,hb⟩
  .have au:=hr.low (h.Fv hi);rcases ho with ho|⟨rfl,ho⟩
   .exact(h.ko k hk i a r hi hr ho).app u
   .have:=(hN r ho).1;omega
  .by_cases e:k=g
   .have:=knows_own Vl;rw[hu op cr]at this;rw[e];exact this
   .obtain⟨r',h1,h2,h3⟩:=ht op cr a hb (mem_of hr);obtain rfl:=h1.inj hr;have hko:=ho.resolve_right λx=>e x.1;rcases h2 with h2|h2
    .exact(h.dj k g hk hg e r' hko h2).elim
    .have:=(hN _ h2).1;have:=h.bound k hk _ (h.sub k hk _ hko);omega
 .intro i a hi hm;rcases gT hi with hi|⟨op,cr,Vl,hb⟩
  .rcases h.ho i a hi hm with h1|⟨k,h1,h2,h3⟩
   .exact .inl (h1.app u)
   .obtain⟨op,h4,_⟩:=ic hi;exact .inr ⟨k,h1,h2,by rw[g?_old (lt_size_of_getElem? h4)];exact h3⟩
  .by_cases e:g=0
   .have:=knows_own Vl;rw[hu op cr,e]at this;exact .inl this
   .exact .inr ⟨g,e,hg,by simp only[Trace.g?,Vl,zBJ,hu op cr]⟩
 .intro op cr;rcases zEA.1 cr with cr|cr
  .exact MemAct.low_mono hB (h.low op cr)
  .exact hl op cr
def xD {e:Event} (h:e.sync=false) (k:(∃a:Addr,e.loc=.cell a)\/∃r,e.loc=.obj r):MemAct.ofEvent e=.access e:=by
 obtain⟨l,w,s⟩:=e;simp only at h k;subst h;rcases k with⟨a,rfl⟩|⟨r,rfl⟩<;>cases w<;>rfl
def Co.step (h:Co A kn own B t) (hg:A g) {w w1:nq} (hB:w.heap.size=B) (hf:Fair (kn g) (own g) w w1 es) (fn:FuncId) (pos:String):
 Co A (upd kn g (aJ (kn g) w w1)) (upd own g (aJ (own g) w w1)) w1.heap.size (t++MemOp.ofEvents g fn pos es):=by
 subst hB
 have Qm:∀op∈MemOp.ofEvents g fn pos es,op.g=g/\(op.act=.mark .noRoom\/∃e∈es,op.act=.access e/\e.sync=false/\∃r,aJ (kn g) w w1 r/\mQ e.loc r/\(e.write=true->aJ (own g) w w1 r)):=by
  intro op cr;obtain⟨e,he,rfl⟩:=Cq cr;refine⟨rfl,?_⟩;rcases hf.ev e he with rfl|⟨h1,r,h2,h3,h4⟩
  .exact .inl rfl
  .refine .inr ⟨e,he,xD h1 ?_,h1,r,h2,h3,h4⟩;rcases h3 with⟨a,h3,_⟩|h3
   .exact .inl ⟨a,h3⟩
   .exact .inr ⟨r,h3⟩
 have hr:∀r,aJ (kn g) w w1 r->r<w1.heap.size:=λr hr=>by
  rcases hr with hr|hr
  .exact zAZ (h.bound g hg r hr) hf.size
  .exact hr.2
 refine h.app hg hf.size (λr hr=>hr) (λop cr=>(Qm op cr).1) (λop cr=>?_) (λop cr=>?_) λop cr b hb hm=>?_
 .rcases(Qm op cr).2 with e|⟨e,_,h1,_⟩
  .rw[e];exact⟨by simp,by simp⟩
  .rw[h1];exact⟨by simp,by simp⟩
 .rcases(Qm op cr).2 with e|⟨e,_,h1,_,r,h2,h3,_⟩
  .rw[e];trivial
  .rw[h1];show e.loc.low _;rcases h3 with⟨a,h3,rfl⟩|h3
   .rw[h3];exact hr _ h2
   .rw[h3];exact hr _ h2
 .rcases(Qm op cr).2 with e|⟨e,_,h1,h0,r,h2,h3,h4⟩
  .rw[e]at hb;cases hb
  .rw[h1]at hb;simp only[MemAct.touch?,h0,zAL,zBC,zAB]at hb;subst hb;exact⟨r,h3,h2,h4⟩
def Co.mute (h:Co A kn own B t) (hu:∀op∈u,op.act.touch?=none) (hc:Calm u) (hl:∀op∈u,op.act.low B):Co A kn own B (t++u):=by
 have old:∀{i a},touchAt (t++u) i=some a->touchAt t i=some a:=λ{i a} hi=>by
  rcases gT hi with hi|⟨op,cr,_,hb⟩
  .exact hi
  .rw[hu op cr]at hb;cases hb
 refine⟨λsaid=>?_,h.calm.app hc,h.sub,h.bound,h.dj,λg hg i a r hi=>λa1 a2 a3=>(h.kw g hg i a r (old hi) a1 a2 a3).app u,λg hg i a r hi=>λa1 a2=>(h.ko g hg i a r (old hi) a1 a2).app u,?_,?_⟩
 .rintro⟨i,j,sL,⟨a,b,ha,hb,hcf⟩,n1,n2⟩;exact h.clean said ⟨i,j,sL,⟨a,b,old ha,old hb,hcf⟩,λx=>n1 (hb_app u x),λx=>n2 (hb_app u x)⟩
 .intro i a hi hm;have hi:=old hi;rcases h.ho i a hi hm with h1|⟨k,h1,h2,h3⟩
  .exact .inl (h1.app u)
  .obtain⟨op,h4,_⟩:=ic hi;exact .inr ⟨k,h1,h2,by rw[g?_old (lt_size_of_getElem? h4)];exact h3⟩
 .intro op cr;rcases zEA.1 cr with cr|cr
  .exact h.low op cr
  .exact hl op cr
def Co.shrink (h:Co A kn own B t) {jg fB:Nat->Nat->Prop} (hk:∀g,A g->∀r,jg g r->kn g r) (ho:∀g,A g->∀r,fB g r->own g r) (hs:∀g,A g->∀r,fB g r->jg g r):Co A jg fB B t:=
 ⟨h.clean,h.calm,hs,λg hg r hr=>h.bound g hg r (hk g hg r hr),λg k hg BC bu r hr Cr=>h.dj g k hg BC bu r (ho g hg r hr) (hk k BC r Cr),
   λg hg i a r hi hr Cr hw=>h.kw g hg i a r hi hr (hk g hg r Cr) hw,λg hg i a r hi hr Cr=>h.ko g hg i a r hi hr (ho g hg r Cr),h.ho,h.low⟩
def Co.spawn (h:Co A kn own B t) (h0:A 0) (hc:c≠0) (hA:¬A c) {K k0 o0:Nat->Prop} (hK:∀r,K r->kn 0 r) (qA:∀r,k0 r->kn 0 r) (LK:∀r,o0 r->own 0 r) (hs:∀r,o0 r->k0 r) (hd:∀r,o0 r->¬K r)
 (hx:x.g=0/\x.act=.go c) (hy:y.g=c/\y.act=.start):
 Co (λg=>A g\/g=c) (upd (upd kn 0 k0) c K) (upd (upd own 0 o0) c λ_=>False) B (t++#[x,y]):=by
 have hm:Co A kn own B (t++#[x,y]):=by
  refine h.mute (λop cr=>?_) (λop cr=>?_) λop cr=>?_
  all_goals
   have:op=x\/op=y:=by simpa using cr
   rcases this with rfl|rfl
  .rw[hx.2];rfl
  .rw[hy.2];rfl
  .rw[hx.2];exact⟨by simp,by simp⟩
  .rw[hy.2];exact⟨by simp,by simp⟩
  .rw[hx.2];trivial
  .rw[hy.2];trivial
 have yu:∀k,k≠c->∀r,upd (upd kn 0 k0) c K k r->kn k r:=by
  intro k hk r hr;rw[upd_ne _ _ hk]at hr;by_cases e:k=0
  .subst e;rw[upd_same]at hr;exact qA r hr
  .rwa [upd_ne _ _ e]at hr
 have cq:∀k,k≠c->∀r,upd (upd own 0 o0) c (λ_=>False) k r->own k r/\(k=0->o0 r):=by
  intro k hk r hr;rw[upd_ne _ _ hk]at hr;by_cases e:k=0
  .subst e;rw[upd_same]at hr;exact⟨LK r hr,λ_=>hr⟩
  .rw[upd_ne _ _ e]at hr;exact⟨hr,λx=>absurd x e⟩
 have Fw:∀r,¬upd (upd own 0 o0) c (λ_=>False) c r:=λr hr=>by rw[upd_same]at hr;exact hr
 have Vm:∀k,(A k\/k=c)->k≠c->A k:=λk hk bu=>hk.resolve_right bu;refine⟨hm.clean,hm.calm,?_,?_,?_,?_,?_,?_,hm.low⟩
 .intro k hk r hr;by_cases e:k=c
  .rw[e]at hr;exact(Fw r hr).elim
  .have h1:=cq k e r hr;rw[upd_ne _ _ e];by_cases e0:k=0
   .subst e0;rw[upd_same];exact hs r (h1.2 rfl)
   .rw[upd_ne _ _ e0];exact h.sub k (Vm k hk e) r h1.1
 .intro k hk r hr;by_cases e:k=c
  .rw[e,upd_same]at hr;exact h.bound 0 h0 r (hK r hr)
  .exact h.bound k (Vm k hk e) r (yu k e r hr)
 .intro k l hk hl bu r ho qu;by_cases e:k=c
  .rw[e]at ho;exact Fw r ho
  .have h1:=cq k e r ho;by_cases e2:l=c
   .rw[e2,upd_same]at qu;by_cases e0:k=0
    .exact hd r (h1.2 e0) qu
    .exact h.dj k 0 (Vm k hk e) h0 e0 r h1.1 (hK r qu)
   .exact h.dj k l (Vm k hk e) (Vm l hl e2) bu r h1.1 (yu l e2 r qu)
 .intro k hk i a r hi hr Cr hw;by_cases e:k=c
  .subst e;rw[upd_same]at Cr;rcases gT hi with hi|⟨op,cr,_,hb⟩
   .exact fork_knows hx hy (h.calm.deaf _ _) (h.calm.deaf _ _) (h.kw 0 h0 i a r hi hr (hK r Cr) hw)
   .have:op=x\/op=y:=by simpa using cr
    rcases this with rfl|rfl
    .rw[hx.2]at hb;cases hb
    .rw[hy.2]at hb;cases hb
  .exact hm.kw k (Vm k hk e) i a r hi hr (yu k e r Cr) hw
 .intro k hk i a r hi hr ho;by_cases e:k=c
  .rw[e]at ho;exact(Fw r ho).elim
  .exact hm.ko k (Vm k hk e) i a r hi hr (cq k e r ho).1
 .intro i a hi eV;exact(hm.ho i a hi eV).imp id λ⟨g,h1,h2,h3⟩=>⟨g,h1,.inl h2,h3⟩
def Co.drop (h:Co A kn own B t) (hk:∀i a,touchAt t i=some a->t.g? i=some c->Knows t 0 i):Co (λg=>A g/\g≠c) kn own B t:=
 ⟨h.clean,h.calm,λg hg=>h.sub g hg.1,λg hg=>h.bound g hg.1,λg k hg BC=>h.dj g k hg.1 BC.1,λg hg=>h.kw g hg.1,λg hg=>h.ko g hg.1,
   λi a hi hm=>by
    rcases h.ho i a hi hm with h1|⟨g,h1,h2,h3⟩
    .exact .inl h1
    .by_cases e:g=c
     .exact .inl (hk i a hi (e▸h3))
     .exact .inr ⟨g,h1,⟨h2,e⟩,h3⟩,h.low⟩
def handed (hc:Calm (t++u)) {j k m:Nat} (hx:u[k]?=some x) (hxg:x.g=j) (hxa:x.act=.send c s) (hy:u[m]?=some y) (hyg:y.g=0) (hya:y.act=.recvDone c s) (hi:t.g? i=some j):Knows (t++u) 0 i:=by
 have Fx:(t++u)[t.size+k]?=some x:=by rw[zDP (by omega)];simpa using hx
 have LR:(t++u)[t.size+m]?=some y:=by rw[zDP (by omega)];simpa using hy
 obtain⟨z,hz⟩:∃z,t[i]?=some z:=by
  unfold Trace.g? at hi;cases hz:t[i]? with
  |none=>rw[hz]at hi;cases hi
  |some z=>exact⟨z,rfl⟩
 have hzg:z.g=j:=by unfold Trace.g? at hi;rw[hz]at hi;simpa using hi
 have au:=lt_size_of_getElem? hz;have h1:HappensBefore (t++u) i (t.size+k):=hb_po (by omega) (by rw[getElem?_append_old au];exact hz) Fx (hzg.trans hxg.symm);exact⟨t.size+m,y,LR,hyg,.inr (h1.trans (.single (.inr ⟨.handOver (c:=c) (k:=s) (by rw[act?_of Fx,hxa]) (by rw[act?_of LR,hya]),hc.heard Fx,hc.heard LR⟩)))⟩
def Co.handedOver (h:Co A kn own B t) (hA:∀g,A g->g=0):t.HandedOver:=by
 intro i g hg Qn ⟨x,hx,hm,_⟩;rcases h.ho i x hx hm with⟨q,z,h1,h2,h3⟩|⟨k,h1,h2,_⟩
 .rcases h3 with rfl|h3
  .exfalso;simp only[Trace.g?,h1,zBJ,zAB]at hg;exact Qn (hg.symm.trans h2)
  .exact⟨q,by simp[Trace.g?,h1,h2],h3⟩
 .exact absurd (hA k h2) h1
def Co.nil (A:Nat->Prop) (hA:∀g,A g->g=0) {k o:Nat->Prop} {B:Nat} (hk:∀r,k r->r<B) (ho:∀r,o r->k r):Co A (λ_=>k) (λ_=>o) B #[]:=
 ⟨λsaid ⟨i,j,_,⟨a,b,ha,_⟩,_⟩=>by simp[Trace.act?]at ha,λop cr=>by simp at cr,λ_ _=>ho,λ_ _=>hk,λg k hg hk bu=>absurd ((hA g hg).trans (hA k hk).symm) bu,
   λg _ i a r hi=>by simp[touchAt,Trace.act?]at hi,λg _ i a r hi=>by simp[touchAt,Trace.act?]at hi,λi a hi=>by simp[touchAt,Trace.act?]at hi,λop cr=>by simp at cr⟩
end
end Go.aD
