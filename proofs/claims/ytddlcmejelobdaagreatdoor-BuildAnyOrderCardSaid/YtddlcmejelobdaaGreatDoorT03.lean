/- A part. Conditions: none. -/
import Derived.Test.YtddlcmejelobdaaGreatDoorT02
import Derived.Conc.Beside
import Derived.Conc.CrowdTrace
set_option linter.all false
namespace Go.aC
open Go.Conc
open Go.ConcN (upd upd_same upd_ne fork_knows)
variable {a:Touch} {c g i r s:Nat} {es:Array Event} {l:Loc} {op x y:MemOp}
def lT (l:Loc) (r:Nat):Prop:=(∃a:Addr,l=.cell a/\a.block=r)\/l=.obj r
def lT.inj (h:lT l r) (k:lT l s):r=s:=by
 rcases h with⟨a,h,rfl⟩|h<;>rcases k with⟨b,k,rfl⟩|k<;>rw[h]at k<;>cases k<;>rfl
def lT.low {B:Nat} (h:lT l r) (k:l.low B):r<B:=by
 rcases h with⟨a,rfl,rfl⟩|rfl<;>exact k
def Calm (t:Trace):Prop:=∀op∈t,op.act≠ .mark .disable/\op.act≠ .mark .enable
def Calm.deaf {t:Trace} (h:Calm t) (g:Nat):∀i,t.deaf g i=0:=by
 intro i;induction i with
 |zero=>rfl
 |succ i ih=>
  cases hy:t[i]? with
  |none=>simp only[Trace.deaf,hy];exact ih
  |some y=>
   rw[deaf_succ hy,ih];have:=h y (zDE hy);unfold deafStep;split
   .exact absurd (by assumption) this.1
   .exact absurd (by assumption) this.2
   .rfl
def Calm.app {t u:Trace} (h:Calm t) (k:Calm u):Calm (t++u):=λop cj=>(zER.1 cj).elim (h op) (k op)
def Calm.heard {t:Trace} (h:Calm t) (hi:t[i]?=some op):t.heard i:=⟨op.g,by simp[Trace.g?,hi],h.deaf _ _⟩
def Jp {x:MemAct} {B:Nat} {b:Touch} (h:x.low B) (k:x.touch?=some b):b.loc.low B:=by
 unfold MemAct.touch? at k;split at k
 .simp only[zAA]at k;subst k;exact h
 .simp only[zAA]at k;subst k;exact h
 .simp only[zAA]at k;subst k;exact h
 .cases k
def gH {t:Trace} (h:touchAt t i=some a):∃op,t[i]?=some op/\op.act.touch?=some a:=by
 unfold touchAt Trace.act? at h;cases hi:t[i]? with
 |none=>rw[hi]at h;cases h
 |some op=>rw[hi]at h;exact⟨op,rfl,h⟩
def BV {fn:FuncId} {pos:String} (h:op∈MemOp.ofEvents g fn pos es):∃e∈es,op={g,fn,pos,act:=.ofEvent e}:=by
 unfold MemOp.ofEvents at h;split at h
 .simp at h
 .obtain⟨e,he,rfl⟩:=Array.mem_map.1 h;exact⟨e,he,rfl⟩
structure Co (A:Nat->Prop) (kn own:Nat->Nat->Prop) (B:Nat) (t:Trace):Prop where
 clean:∀said,¬Race said t
 calm:Calm t
 sub:∀g,A g->∀r,own g r->kn g r
 bound:∀g,A g->∀r,kn g r->r<B
 dj:∀g h,A g->A h->g≠h->∀r,own g r->¬kn h r
 kw:∀g,A g->∀i a r,touchAt t i=some a->lT a.loc r->kn g r->a.write=true->Knows t g i
 ko:∀g,A g->∀i a r,touchAt t i=some a->lT a.loc r->own g r->Knows t g i
 ho:∀i a,touchAt t i=some a->a.loc.isMemory=true->Knows t 0 i\/∃g,g≠0/\A g/\t.g? i=some g
 low:∀op∈t,op.act.low B
section
variable {A:Nat->Prop} {kn own:Nat->Nat->Prop} {B:Nat} {t u:Trace}
def Co.EV (h:Co A kn own B t) (hi:touchAt t i=some a):a.loc.low B:=by
 obtain⟨op,h1,h2⟩:=gH hi;exact Jp (h.low op (zDE h1)) h2
def gv (h:touchAt (t++u) i=some a):touchAt t i=some a\/∃op,op∈u/\(t++u)[i]?=some op/\op.act.touch?=some a:=by
 obtain⟨op,h1,h2⟩:=gH h;rcases getElem?_append_cases h1 with⟨_,h3⟩|⟨_,h3⟩
 .exact .inl (by rw[touchAt_of h3];exact h2)
 .exact .inr ⟨op,h3,h1,h2⟩
def Co.app (h:Co A kn own B t) (hg:A g) {N:Nat->Prop} {B':Nat} (hB:B<=B') (hN:∀r,N r->B<=r/\r<B') (hu:∀op∈u,op.g=g) (hc:Calm u) (hl:∀op∈u,op.act.low B')
 (ht:∀op∈u,∀b,op.act.touch?=some b->b.loc.isMemory=true->∃r,lT b.loc r/\(kn g r\/N r)/\(b.write=true->own g r\/N r)):
 Co A (upd kn g λr=>kn g r\/N r) (upd own g λr=>own g r\/N r) B' (t++u):=by
 have xN:∀k r,upd kn g (λr=>kn g r\/N r) k r↔(kn k r\/(k=g/\N r)):=by
  intro k r;by_cases e:k=g
  .subst e;rw[upd_same];simp
  .rw[upd_ne _ _ e];simp[e]
 have bQ:∀k r,upd own g (λr=>own g r\/N r) k r↔(own k r\/(k=g/\N r)):=by
  intro k r;by_cases e:k=g
  .subst e;rw[upd_same];simp
  .rw[upd_ne _ _ e];simp[e]
 have mem_of:∀{l:Loc} {r:Nat},lT l r->l.isMemory=true:=λ{l r} hl=>by rcases hl with⟨a,rfl,_⟩|rfl<;>rfl
 refine⟨λsaid=>noRace_append (h.clean said) hu λi a hi op cj b hb hcf=>?_,h.calm.app hc,?_,?_,?_,?_,?_,?_,?_⟩
 .obtain⟨c1,c2,c3,_⟩:=hcf;obtain⟨r,hr,hk,hw⟩:=ht op cj b hb (c1▸c2);have hra:lT a.loc r:=by rw[c1];exact hr
  have av:r<B:=hra.low (h.EV hi);have old:∀s,N s->s≠r:=λs hs e=>by have:=(hN s hs).1;omega
  rcases c3 with c3|c3
  .exact h.kw g hg i a r hi hra (hk.resolve_right λx=>old r x rfl) c3
  .exact h.ko g hg i a r hi hra ((hw c3).resolve_right λx=>old r x rfl)
 .intro k hk r hr;rw[bQ]at hr;rw[xN];exact hr.imp (h.sub k hk r) id
 .intro k hk r hr;rw[xN]at hr;rcases hr with hr|⟨_,hr⟩
  .exact zAY (h.bound k hk r hr) hB
  .exact(hN r hr).2
 .intro k l hk hl' bC r ho rk;rw[bQ]at ho;rw[xN]at rk;rcases ho with ho|⟨rfl,ho⟩
  .rcases rk with rk|⟨rfl,rk⟩
   .exact h.dj k l hk hl' bC r ho rk
   .have:=h.bound k hk r (h.sub k hk r ho);have:=(hN r rk).1;omega
  .rcases rk with rk|⟨rfl,_⟩
   .have:=h.bound l hl' r rk;have:=(hN r ho).1;omega
   .exact bC rfl
 .intro k hk i a r hi hr BW hw;rw[xN]at BW;rcases gv hi with hi|⟨op,cj,XQ,hb⟩
  .have av:r<B:=hr.low (h.EV hi);rcases BW with BW|⟨rfl,BW⟩
   .exact(h.kw k hk i a r hi hr BW hw).app u
   .have:=(hN r BW).1;omega
  .by_cases e:k=g
   .have:=knows_own XQ;rw[hu op cj]at this;rw[e];exact this
   .obtain⟨r',h1,h2,h3⟩:=ht op cj a hb (mem_of hr);obtain rfl:=h1.inj hr;have hkk:kn k r':=BW.resolve_right λx=>e x.1;rcases h3 hw with h3|h3
    .exact(h.dj g k hg hk (Ne.symm e) r' h3 hkk).elim
    .have:=(hN _ h3).1;have:=h.bound k hk _ hkk;omega
 .intro k hk i a r hi hr ho;rw[bQ]at ho;rcases gv hi with hi|⟨op,cj,XQ,hb⟩
  .have av:r<B:=hr.low (h.EV hi);rcases ho with ho|⟨rfl,ho⟩
   .exact(h.ko k hk i a r hi hr ho).app u
   .have:=(hN r ho).1;omega
  .by_cases e:k=g
   .have:=knows_own XQ;rw[hu op cj]at this;rw[e];exact this
   .obtain⟨r',h1,h2,h3⟩:=ht op cj a hb (mem_of hr);obtain rfl:=h1.inj hr;have hko:own k r':=ho.resolve_right λx=>e x.1;rcases h2 with h2|h2
    .exact(h.dj k g hk hg e r' hko h2).elim
    .have:=(hN _ h2).1;have:=h.bound k hk _ (h.sub k hk _ hko);omega
 .intro i a hi hm;rcases gv hi with hi|⟨op,cj,XQ,hb⟩
  .rcases h.ho i a hi hm with h1|⟨k,h1,h2,h3⟩
   .exact .inl (h1.app u)
   .obtain⟨op,h4,_⟩:=gH hi;exact .inr ⟨k,h1,h2,by rw[g?_old (lt_size_of_getElem? h4)];exact h3⟩
  .by_cases e:g=0
   .have:=knows_own XQ;rw[hu op cj,e]at this;exact .inl this
   .exact .inr ⟨g,e,hg,by simp only[Trace.g?,XQ,zBA,hu op cj]⟩
 .intro op cj;rcases zER.1 cj with cj|cj
  .exact MemAct.low_mono hB (h.low op cj)
  .exact hl op cj
def wN {e:Event} (h:e.sync=false) (k:(∃a:Addr,e.loc=.cell a)\/∃r,e.loc=.obj r):MemAct.ofEvent e=.access e:=by
 obtain⟨l,w,s⟩:=e;simp only at h k;subst h;rcases k with⟨a,rfl⟩|⟨r,rfl⟩<;>cases w<;>rfl
def Co.step (h:Co A kn own B t) (hg:A g) {w w1:nq} (hB:w.heap.size=B) (hf:Fair (kn g) (own g) w w1 es) (fn:FuncId) (pos:String):
 Co A (upd kn g (aN (kn g) w w1)) (upd own g (aN (own g) w w1)) w1.heap.size (t++MemOp.ofEvents g fn pos es):=by
 subst hB
 have PR:∀op∈MemOp.ofEvents g fn pos es,op.g=g/\(op.act=.mark .noRoom\/∃e∈es,op.act=.access e/\e.sync=false/\∃r,aN (kn g) w w1 r/\lT e.loc r/\(e.write=true->aN (own g) w w1 r)):=by
  intro op cj;obtain⟨e,he,rfl⟩:=BV cj;refine⟨rfl,?_⟩;rcases hf.ev e he with rfl|⟨h1,r,h2,h3,h4⟩
  .exact .inl rfl
  .refine .inr ⟨e,he,wN h1 ?_,h1,r,h2,h3,h4⟩;rcases h3 with⟨a,h3,_⟩|h3
   .exact .inl ⟨a,h3⟩
   .exact .inr ⟨r,h3⟩
 have hr:∀r,aN (kn g) w w1 r->r<w1.heap.size:=λr hr=>by
  rcases hr with hr|hr
  .exact zAY (h.bound g hg r hr) hf.size
  .exact hr.2
 refine h.app hg hf.size (λr hr=>hr) (λop cj=>(PR op cj).1) (λop cj=>?_) (λop cj=>?_) λop cj b hb hm=>?_
 .rcases(PR op cj).2 with e|⟨e,_,h1,_⟩
  .rw[e];exact⟨by simp,by simp⟩
  .rw[h1];exact⟨by simp,by simp⟩
 .rcases(PR op cj).2 with e|⟨e,_,h1,_,r,h2,h3,_⟩
  .rw[e];trivial
  .rw[h1];show e.loc.low _;rcases h3 with⟨a,h3,rfl⟩|h3
   .rw[h3];exact hr _ h2
   .rw[h3];exact hr _ h2
 .rcases(PR op cj).2 with e|⟨e,_,h1,h0,r,h2,h3,h4⟩
  .rw[e]at hb;cases hb
  .rw[h1]at hb;simp only[MemAct.touch?,h0,zAN,zBJ,zAA]at hb;subst hb;exact⟨r,h3,h2,h4⟩
def Co.mute (h:Co A kn own B t) (hu:∀op∈u,op.act.touch?=none) (hc:Calm u) (hl:∀op∈u,op.act.low B):Co A kn own B (t++u):=by
 have old:∀{i a},touchAt (t++u) i=some a->touchAt t i=some a:=λ{i a} hi=>by
  rcases gv hi with hi|⟨op,cj,_,hb⟩
  .exact hi
  .rw[hu op cj]at hb;cases hb
 refine⟨λsaid=>?_,h.calm.app hc,h.sub,h.bound,h.dj,λg hg i a r hi=>λa1 a2 a3=>(h.kw g hg i a r (old hi) a1 a2 a3).app u,λg hg i a r hi=>λa1 a2=>(h.ko g hg i a r (old hi) a1 a2).app u,?_,?_⟩
 .rintro⟨i,j,rZ,⟨a,b,ha,hb,hcf⟩,n1,n2⟩;exact h.clean said ⟨i,j,rZ,⟨a,b,old ha,old hb,hcf⟩,λx=>n1 (hb_app u x),λx=>n2 (hb_app u x)⟩
 .intro i a hi hm;have hi:=old hi;rcases h.ho i a hi hm with h1|⟨k,h1,h2,h3⟩
  .exact .inl (h1.app u)
  .obtain⟨op,h4,_⟩:=gH hi;exact .inr ⟨k,h1,h2,by rw[g?_old (lt_size_of_getElem? h4)];exact h3⟩
 .intro op cj;rcases zER.1 cj with cj|cj
  .exact h.low op cj
  .exact hl op cj
def Co.shrink (h:Co A kn own B t) {iR eZ:Nat->Nat->Prop} (hk:∀g,A g->∀r,iR g r->kn g r) (ho:∀g,A g->∀r,eZ g r->own g r) (hs:∀g,A g->∀r,eZ g r->iR g r):Co A iR eZ B t:=
 ⟨h.clean,h.calm,hs,λg hg r hr=>h.bound g hg r (hk g hg r hr),λg k hg Bg bC r hr BW=>h.dj g k hg Bg bC r (ho g hg r hr) (hk k Bg r BW),
   λg hg i a r hi hr BW hw=>h.kw g hg i a r hi hr (hk g hg r BW) hw,λg hg i a r hi hr BW=>h.ko g hg i a r hi hr (ho g hg r BW),h.ho,h.low⟩
def Co.spawn (h:Co A kn own B t) (h0:A 0) (hc:c≠0) (hA:¬A c) {K k0 o0:Nat->Prop} (hK:∀r,K r->kn 0 r) (qZ:∀r,k0 r->kn 0 r) (ho0:∀r,o0 r->own 0 r) (hs:∀r,o0 r->k0 r) (hd:∀r,o0 r->¬K r)
 (hx:x.g=0/\x.act=.go c) (hy:y.g=c/\y.act=.start):
 Co (λg=>A g\/g=c) (upd (upd kn 0 k0) c K) (upd (upd own 0 o0) c λ_=>False) B (t++#[x,y]):=by
 have hm:Co A kn own B (t++#[x,y]):=by
  refine h.mute (λop cj=>?_) (λop cj=>?_) λop cj=>?_
  all_goals
   have:op=x\/op=y:=by simpa using cj
   rcases this with rfl|rfl
  .rw[hx.2];rfl
  .rw[hy.2];rfl
  .rw[hx.2];exact⟨by simp,by simp⟩
  .rw[hy.2];exact⟨by simp,by simp⟩
  .rw[hx.2];trivial
  .rw[hy.2];trivial
 have xN:∀k,k≠c->∀r,upd (upd kn 0 k0) c K k r->kn k r:=by
  intro k hk r hr;rw[upd_ne _ _ hk]at hr;by_cases e:k=0
  .subst e;rw[upd_same]at hr;exact qZ r hr
  .rwa [upd_ne _ _ e]at hr
 have bQ:∀k,k≠c->∀r,upd (upd own 0 o0) c (λ_=>False) k r->own k r/\(k=0->o0 r):=by
  intro k hk r hr;rw[upd_ne _ _ hk]at hr;by_cases e:k=0
  .subst e;rw[upd_same]at hr;exact⟨ho0 r hr,λ_=>hr⟩
  .rw[upd_ne _ _ e]at hr;exact⟨hr,λx=>absurd x e⟩
 have EW:∀r,¬upd (upd own 0 o0) c (λ_=>False) c r:=λr hr=>by rw[upd_same]at hr;exact hr
 have UY:∀k,(A k\/k=c)->k≠c->A k:=λk hk bC=>hk.resolve_right bC;refine⟨hm.clean,hm.calm,?_,?_,?_,?_,?_,?_,hm.low⟩
 .intro k hk r hr;by_cases e:k=c
  .rw[e]at hr;exact(EW r hr).elim
  .have h1:=bQ k e r hr;rw[upd_ne _ _ e];by_cases e0:k=0
   .subst e0;rw[upd_same];exact hs r (h1.2 rfl)
   .rw[upd_ne _ _ e0];exact h.sub k (UY k hk e) r h1.1
 .intro k hk r hr;by_cases e:k=c
  .rw[e,upd_same]at hr;exact h.bound 0 h0 r (hK r hr)
  .exact h.bound k (UY k hk e) r (xN k e r hr)
 .intro k l hk hl bC r ho rk;by_cases e:k=c
  .rw[e]at ho;exact EW r ho
  .have h1:=bQ k e r ho;by_cases e2:l=c
   .rw[e2,upd_same]at rk;by_cases e0:k=0
    .exact hd r (h1.2 e0) rk
    .exact h.dj k 0 (UY k hk e) h0 e0 r h1.1 (hK r rk)
   .exact h.dj k l (UY k hk e) (UY l hl e2) bC r h1.1 (xN l e2 r rk)
 .intro k hk i a r hi hr BW hw;by_cases e:k=c
  .subst e;rw[upd_same]at BW;rcases gv hi with hi|⟨op,cj,_,hb⟩
   .exact fork_knows hx hy (h.calm.deaf _ _) (h.calm.deaf _ _) (h.kw 0 h0 i a r hi hr (hK r BW) hw)
   .have:op=x\/op=y:=by simpa using cj
    rcases this with rfl|rfl
    .rw[hx.2]at hb;cases hb
    .rw[hy.2]at hb;cases hb
  .exact hm.kw k (UY k hk e) i a r hi hr (xN k e r BW) hw
 .intro k hk i a r hi hr ho;by_cases e:k=c
  .rw[e]at ho;exact(EW r ho).elim
  .exact hm.ko k (UY k hk e) i a r hi hr (bQ k e r ho).1
 .intro i a hi fe;exact(hm.ho i a hi fe).imp id λ⟨g,h1,h2,h3⟩=>⟨g,h1,.inl h2,h3⟩
def Co.drop (h:Co A kn own B t) (hk:∀i a,touchAt t i=some a->t.g? i=some c->Knows t 0 i):Co (λg=>A g/\g≠c) kn own B t:=
 ⟨h.clean,h.calm,λg hg=>h.sub g hg.1,λg hg=>h.bound g hg.1,λg k hg Bg=>h.dj g k hg.1 Bg.1,λg hg=>h.kw g hg.1,λg hg=>h.ko g hg.1,
   λi a hi hm=>by
    rcases h.ho i a hi hm with h1|⟨g,h1,h2,h3⟩
    .exact .inl h1
    .by_cases e:g=c
     .exact .inl (hk i a hi (e▸h3))
     .exact .inr ⟨g,h1,⟨h2,e⟩,h3⟩,h.low⟩
def handed (hc:Calm (t++u)) {j k m:Nat} (hx:u[k]?=some x) (hxg:x.g=j) (hxa:x.act=.send c s) (hy:u[m]?=some y) (hyg:y.g=0) (hya:y.act=.recvDone c s) (hi:t.g? i=some j):Knows (t++u) 0 i:=by
 have wO:(t++u)[t.size+k]?=some x:=by rw[zDL (by omega)];simpa using hx
 have UZ:(t++u)[t.size+m]?=some y:=by rw[zDL (by omega)];simpa using hy
 obtain⟨z,hz⟩:∃z,t[i]?=some z:=by
  unfold Trace.g? at hi;cases hz:t[i]? with
  |none=>rw[hz]at hi;cases hi
  |some z=>exact⟨z,rfl⟩
 have hzg:z.g=j:=by unfold Trace.g? at hi;rw[hz]at hi;simpa using hi
 have av:=lt_size_of_getElem? hz;have h1:HappensBefore (t++u) i (t.size+k):=hb_po (by omega) (by rw[getElem?_append_old av];exact hz) wO (hzg.trans hxg.symm);exact⟨t.size+m,y,UZ,hyg,.inr (h1.trans (.single (.inr ⟨.handOver (c:=c) (k:=s) (by rw[act?_of wO,hxa]) (by rw[act?_of UZ,hya]),hc.heard wO,hc.heard UZ⟩)))⟩
def Co.handedOver (h:Co A kn own B t) (hA:∀g,A g->g=0):t.HandedOver:=by
 intro i g hg PS ⟨x,hx,hm,_⟩;rcases h.ho i x hx hm with⟨q,z,h1,h2,h3⟩|⟨k,h1,h2,_⟩
 .rcases h3 with rfl|h3
  .exfalso;simp only[Trace.g?,h1,zBA,zAA]at hg;exact PS (hg.symm.trans h2)
  .exact⟨q,by simp[Trace.g?,h1,h2],h3⟩
 .exact absurd (hA k h2) h1
def Co.nil (A:Nat->Prop) (hA:∀g,A g->g=0) {k o:Nat->Prop} {B:Nat} (hk:∀r,k r->r<B) (ho:∀r,o r->k r):Co A (λ_=>k) (λ_=>o) B #[]:=
 ⟨λsaid ⟨i,j,_,⟨a,b,ha,_⟩,_⟩=>by simp[Trace.act?]at ha,λop cj=>by simp at cj,λ_ _=>ho,λ_ _=>hk,λg k hg hk bC=>absurd ((hA g hg).trans (hA k hk).symm) bC,
   λg _ i a r hi=>by simp[touchAt,Trace.act?]at hi,λg _ i a r hi=>by simp[touchAt,Trace.act?]at hi,λi a hi=>by simp[touchAt,Trace.act?]at hi,λop cj=>by simp at cj⟩
end
end Go.aC
