/- A part. Conditions: none. -/
import Derived.Test.YtehbindidbgacaaGreatDoorT07
set_option linter.all false
namespace Go.Ev
open Go.aB (aa bi bn eS bu fC bR bN bQ aC aD bB d8 cz cy bH aA aU aT bY bG bl)
variable {a a':Addr} {aQ xs ys:Array Value} {i r r':Nat} {o o':Obj} {t:TypeId} {v v':Value} {α β γ δ:Type}
structure Pi where
 m:Nat->Nat->Prop
 x:Nat->Nat->Prop
instance : CoeFun Pi (fun _ => Nat -> Nat -> Prop) := ⟨Pi.m⟩
structure Le (p q:Pi):Prop where
 m:∀r r',p r r'->q r r'
 x:∀r n,p.x r n->q.x r n
 xr:∀r r' n,p r r'->q.x r n->p.x r n
instance (p q : Pi) : CoeFun (Le p q) (fun _ => ∀ r r', p r r' -> q r r') := ⟨Le.m⟩
theorem Le.refl (p:Pi):Le p p:=⟨fun _ _ h=>h,fun _ _ h=>h,fun _ _ _ _ h=>h⟩
theorem Le.trans {p q s:Pi} (h:Le p q) (k:Le q s):Le p s:=⟨fun r r' x=>k.m r r' (h.m r r' x),fun r n x=>k.x r n (h.x r n x),fun r r' n a x=>h.xr r r' n a (k.xr r r' n (h.m r r' a) x)⟩
inductive VR (S:Nat->Bool) (p:Pi):Value->Value->Prop
 |bool (b:Bool):VR S p (.bool b) (.bool b)
 |int (k:IntKind) (n:Int):VR S p (.int k n) (.int k n)
 |string (s:ByteArray):VR S p (.string s) (.string s)
 |jg:VR S p (.pointer none) (.pointer none)
 |ptr {r r':Nat} (o:Nat) (sp:Option Nat) (h:p r r'):VR S p (.pointer (some ⟨r,o,sp⟩)) (.pointer (some ⟨r',o,sp⟩))
 |bA (l c:Nat):VR S p (.slice none l c) (.slice none l c)
 |slice {r r':Nat} (o:Nat) (sp:Option Nat) (l c:Nat) (h:p r r') (hX:S 999999=true->∀k,¬p.x r k):VR S p (.slice (some ⟨r,o,sp⟩) l c) (.slice (some ⟨r',o,sp⟩) l c)
 |dg {r r' k:Nat} (o l:Nat) {c:Nat} (h:p r r') (h0:0<c) (hx:p.x r k):VR S p (.slice (some ⟨r,o,none⟩) l c) (.slice (some ⟨r',o,none⟩) l (c+k))
 |bF {r r':Nat} (o o' c':Nat) (h:p r r'):VR S p (.slice (some ⟨r,o,some 0⟩) 0 0) (.slice (some ⟨r',o',none⟩) 0 c')
 |ja:VR S p (.map none) (.map none)
 |map {r r':Nat} (h:p r r'):VR S p (.map (some r)) (.map (some r'))
 |chan (c:Option Nat):VR S p (.chan c) (.chan c)
 |func {f:Nat} {xs aQ ys rf:Array Value} (h:S f=true) (hx:xs.size=aQ.size) (hy:ys.size=rf.size)
   (gx:∀(i:Nat) (v v':Value),xs[i]?=some v->aQ[i]?=some v'->VR S p v v') (gy:∀(i:Nat) (v v':Value),ys[i]?=some v->rf[i]?=some v'->VR S p v v'):
   VR S p (.func (.func f) xs ys) (.func (.func f) aQ rf)
 |yield {l l':Nat} (h:p l l'):VR S p (.func (.yield l) #[] #[]) (.func (.yield l') #[] #[])
 |nilFunc:VR S p .nilFunc .nilFunc
 |nilIface:VR S p .nilIface .nilIface
 |iface {t:TypeId} {v v':Value} (h:VR S p v v'):VR S p (.iface t v) (.iface t v')
 |agg {xs aQ:Array Value} (hx:xs.size=aQ.size) (gx:∀(i:Nat) (v v':Value),xs[i]?=some v->aQ[i]?=some v'->VR S p v v'):VR S p (.agg xs) (.agg aQ)
 |tuple {xs aQ:Array Value} (hx:xs.size=aQ.size) (gx:∀(i:Nat) (v v':Value),xs[i]?=some v->aQ[i]?=some v'->VR S p v v'):VR S p (.tuple xs) (.tuple aQ)
theorem VR.mono {S:Nat->Bool} {p q:Pi} (h:Le p q) (x:VR S p v v'):VR S q v v':=by
 induction x with
 |bool b=>exact .bool b
 |int k n=>exact .int k n
 |string s=>exact .string s
 |jg=>exact .jg
 |ptr o sp g=>exact .ptr o sp (h _ _ g)
 |bA l c=>exact .bA l c
 |slice o sp l c g hX=>exact .slice o sp l c (h _ _ g) fun hs k hk=>hX hs k (h.xr _ _ _ g hk)
 |dg o l g h0 hx=>exact .dg o l (h _ _ g) h0 (h.x _ _ hx)
 |bF o o' c' g=>exact .bF o o' c' (h _ _ g)
 |ja=>exact .ja
 |map g=>exact .map (h _ _ g)
 |chan c=>exact .chan c
 |func hS hx hy _ _ Ii Lt=>exact .func hS hx hy Ii Lt
 |yield g=>exact .yield (h _ _ g)
 |nilFunc=>exact .nilFunc
 |nilIface=>exact .nilIface
 |iface _ ih=>exact .iface ih
 |agg hx _ ih=>exact .agg hx ih
 |tuple hx _ ih=>exact .tuple hx ih
def AR (S:Nat->Bool) (p:Pi) (xs ys:Array Value):Prop:=xs.size=ys.size/\∀(i:Nat) (v v':Value),xs[i]?=some v->ys[i]?=some v'->VR S p v v'
section
variable {S:Nat->Bool} {p q:Pi}
theorem AR.mono (h:Le p q) (x:AR S p xs ys):AR S q xs ys:=⟨x.1,fun i v v' a b=>(x.2 i v v' a b).mono h⟩
theorem AR.empty:AR S p #[] #[]:=⟨rfl,fun i v v' h=>by simp at h⟩
theorem AR.agg (h:AR S p xs ys):VR S p (.agg xs) (.agg ys):=.agg h.1 h.2
theorem AR.tuple (h:AR S p xs ys):VR S p (.tuple xs) (.tuple ys):=.tuple h.1 h.2
theorem AR.get (h:AR S p xs ys) (hi:xs[i]?=some v):∃v',ys[i]?=some v'/\VR S p v v':=by
 have ao:i<ys.size:=by rw[<-h.1];exact(Array.getElem?_eq_some_iff.1 hi).1
 exact⟨ys[i],Array.getElem?_eq_getElem ao,h.2 i v _ hi (Array.getElem?_eq_getElem ao)⟩
theorem AR.none (h:AR S p xs ys) (hi:xs[i]?=.none):ys[i]?=.none:=by
 rw[Array.getElem?_eq_none_iff]at hi⊢;rw[<-h.1];exact hi
theorem AR.getD (h:AR S p xs ys) (i:Nat) {d d':Value} (hd:VR S p d d'):VR S p (xs.getD i d) (ys.getD i d'):=by
 rw[Array.getD_eq_getD_getElem?,Array.getD_eq_getD_getElem?];cases hx:xs[i]? with
 |none=>rw[h.none hx];exact hd
 |some v=>obtain⟨v',iD,hr⟩:=h.get hx;rw[iD];exact hr
theorem AR.push (h:AR S p xs ys) (hv:VR S p v v'):AR S p (xs.push v) (ys.push v'):=by
 refine⟨by simp[h.1],fun i a b ha hb=>?_⟩;rw[Array.getElem?_push]at ha hb;rw[h.1]at ha;by_cases hi:i=ys.size
 .simp only[hi,if_true,Option.some.injEq]at ha hb;subst ha;subst hb;exact hv
 .simp only[hi,if_false]at ha hb;exact h.2 i a b ha hb
theorem AR.set (h:AR S p xs ys) (i:Nat) (hv:VR S p v v'):AR S p (xs.setIfInBounds i v) (ys.setIfInBounds i v'):=by
 refine⟨by simp[h.1],fun j a b ha hb=>?_⟩;rw[Array.getElem?_setIfInBounds]at ha hb;rw[h.1]at ha;by_cases lQ:i=j
 .subst lQ;simp only[if_true]at ha hb;split at ha
  .rename_i ao;simp only[ao,if_true,Option.some.injEq]at ha hb;subst ha;subst hb;exact hv
  .cases ha
 .simp only[lQ,if_false]at ha hb;exact h.2 j a b ha hb
theorem AR.append {as bs:Array Value} (h:AR S p xs ys) (k:AR S p as bs):AR S p (xs++as) (ys++bs):=by
 refine⟨by simp[h.1,k.1],fun i a b ha hb=>?_⟩;rw[Array.getElem?_append]at ha hb;rw[h.1]at ha;split at ha
 .rename_i ao;simp only[ao,if_true]at hb;exact h.2 i a b ha hb
 .rename_i ao;simp only[ao,if_false]at hb;exact k.2 _ a b ha hb
theorem AR.extract (h:AR S p xs ys) (i j:Nat):AR S p (xs.extract i j) (ys.extract i j):=by
 refine⟨by simp[h.1],fun k a b ha hb=>?_⟩;rw[Array.getElem?_extract]at ha hb;split at ha
 .split at hb
  .exact h.2 _ a b ha hb
  .cases hb
 .cases ha
theorem AR.one (h:VR S p v v'):AR S p #[v] #[v']:=AR.push AR.empty h
theorem AR.map {α:Type} (l:Array α) (f g:α->Value) (h:∀x∈l,VR S p (f x) (g x)):AR S p (l.map f) (l.map g):=by
 refine⟨by simp,fun i a b ha hb=>?_⟩;rw[Array.getElem?_map]at ha hb;cases hl:l[i]? with
 |none=>rw[hl]at ha;cases ha
 |some x=>
  rw[hl]at ha hb;simp only[Option.map_some,Option.some.injEq]at ha hb;subst ha;subst hb;exact h x (Array.mem_of_getElem? hl)
theorem AR.ofFn (n:Nat) (f g:Nat->Value) (h:∀i,VR S p (f i) (g i)):AR S p ((Array.range n).map f) ((Array.range n).map g):=AR.map _ f g fun x _=>h x
theorem VR.cells {v v':Value} (h:VR S p v v'):AR S p v.cells v'.cells:=by
 cases h with
 |agg hx gx=>exact⟨hx,gx⟩
 |bool b=>exact AR.one (.bool b)
 |int k n=>exact AR.one (.int k n)
 |string s=>exact AR.one (.string s)
 |jg=>exact AR.one .jg
 |ptr o sp g=>exact AR.one (.ptr o sp g)
 |bA l c=>exact AR.one (.bA l c)
 |slice o sp l c g hX=>exact AR.one (.slice o sp l c g hX)
 |dg o l g h0 hx=>exact AR.one (.dg o l g h0 hx)
 |bF o o' c' g=>exact AR.one (.bF o o' c' g)
 |ja=>exact AR.one .ja
 |map g=>exact AR.one (.map g)
 |chan c=>exact AR.one (.chan c)
 |func a b c d e=>exact AR.one (.func a b c d e)
 |yield g=>exact AR.one (.yield g)
 |nilFunc=>exact AR.one .nilFunc
 |nilIface=>exact AR.one .nilIface
 |iface g=>exact AR.one (.iface g)
 |tuple hx gx=>exact AR.one (.tuple hx gx)
end
def plain:Nat->Value->Bool
 |_,.bool _|_,.int _ _|_,.string _|_,.pointer none|_,.slice none _ _|_,.map none|_,.chan none|_,.nilFunc|_,.nilIface=>true
 |n+1,.agg xs|n+1,.tuple xs=>xs.all (plain n)
 |n+1,.iface _ v=>plain n v
 |_,_=>false
theorem VR.plain {S:Nat->Bool} {p:Pi}:∀(n:Nat) (v:Value),plain n v=true->VR S p v v:=by
 intro n;induction n with
 |zero=>
  intro v h;cases v<;>try simp only[Ev.plain,Bool.false_eq_true]at h
  case bool b=>exact .bool b
  case int k n=>exact .int k n
  case string s=>exact .string s
  case pointer a=>cases a<;>first|exact .jg|exact absurd h (by simp[Ev.plain])
  case slice a l c=>cases a<;>first|exact .bA l c|exact absurd h (by simp[Ev.plain])
  case map a=>cases a<;>first|exact .ja|exact absurd h (by simp[Ev.plain])
  case chan a=>exact .chan a
  case nilFunc=>exact .nilFunc
  case nilIface=>exact .nilIface
 |succ n ih=>
  intro v h;cases v<;>try simp only[Ev.plain,Bool.false_eq_true]at h
  case bool b=>exact .bool b
  case int k n=>exact .int k n
  case string s=>exact .string s
  case pointer a=>cases a<;>first|exact .jg|exact absurd h (by simp[Ev.plain])
  case slice a l c=>cases a<;>first|exact .bA l c|exact absurd h (by simp[Ev.plain])
  case map a=>cases a<;>first|exact .ja|exact absurd h (by simp[Ev.plain])
  case chan a=>exact .chan a
  case nilFunc=>exact .nilFunc
  case nilIface=>exact .nilIface
  case iface t v=>exact .iface (ih v h)
  case agg xs=>
   refine .agg rfl fun i v v' hv iD=>?_;rw[hv]at iD;cases iD;obtain⟨ao,he⟩:=Array.getElem?_eq_some_iff.1 hv;have:=Array.all_eq_true.1 h i ao;rw[he]at this;exact ih v this
  case tuple xs=>
   refine .tuple rfl fun i v v' hv iD=>?_;rw[hv]at iD;cases iD;obtain⟨ao,he⟩:=Array.getElem?_eq_some_iff.1 hv;have:=Array.all_eq_true.1 h i ao;rw[he]at this;exact ih v this
def cx (p:Pi) (a a':Addr):Prop:=p a.block a'.block/\a.off=a'.off/\a.spot=a'.spot
theorem cx.mono {p q:Pi} (h:Le p q) (x:cx p a a'):cx q a a':=⟨h _ _ x.1,x.2⟩
theorem cx.add {p:Pi} (x:cx p a a') (n:Nat):cx p (a.add n) (a'.add n):=by
 unfold Addr.add;split
 .exact x
 .exact⟨x.1,by simp[x.2.1],rfl⟩
theorem cx.ptr {S:Nat->Bool} {p:Pi} (x:cx p a a'):VR S p (.pointer (some a)) (.pointer (some a')):=by
 obtain⟨b,o,sp⟩:=a;obtain⟨b',o',Oh⟩:=a';obtain⟨h1,h2,h3⟩:=x;simp only at h1 h2 h3;subst h2;subst h3;exact .ptr o sp h1
theorem cx.sl {S:Nat->Bool} {p:Pi} (x:cx p a a') (hX:S 999999=true->∀k,¬p.x a.block k) (l c:Nat):VR S p (.slice (some a) l c) (.slice (some a') l c):=by
 obtain⟨b,o,sp⟩:=a;obtain⟨b',o',Oh⟩:=a';obtain⟨h1,h2,h3⟩:=x;simp only at h1 h2 h3;subst h2;subst h3;exact .slice o sp l c h1 hX
def ER (S:Nat->Bool) (p:Pi) (e e':MapEntry):Prop:=VR S p e.key e'.key/\VR S p e.val e'.val/\e.born=e'.born
theorem ER.mono {S:Nat->Bool} {p q:Pi} (h:Le p q) {e e':MapEntry} (x:ER S p e e'):ER S q e e':=⟨x.1.mono h,x.2.1.mono h,x.2.2⟩
structure Kz where
 k:Code->Prop
 z:TypeId->Value->Prop
instance : CoeFun Kz (fun _ => Code -> Prop) := ⟨Kz.k⟩
inductive OR (S:Nat->Bool) (K:Kz) (p:Pi):Obj->Obj->Prop
 |cells {c c':Array Value} (e:TypeId) (fz:Nat×Nat) (hw:fz.1<=fz.2) (h:AR S p c c'):OR S K p (.cells c e fz) (.cells c' e fz)
 |cU {c c':Array Value} (e:TypeId) (fz dQ:Nat×Nat) (hl:c.size<=c'.size) (hz:(fz.1=0/\c.size<=fz.2)\/((∀i,i<c'.size->¬(dQ.1<=i/\i<dQ.2))/\(S 999999=true->dQ=(0,0)))) (hs:∀(i:Nat) (v':Value),c.size<=i->c'[i]?=some v'->(∃n,plain n v'=true)/\K.z e v') (h:∀(i:Nat) (v v':Value),c[i]?=some v->c'[i]?=some v'->VR S p v v'):OR S K p (.cells c e fz) (.cells c' e dQ)
 |map {es bM:Array MapEntry} (k:Nat) (h:es.size=bM.size) (g:∀(i:Nat) (e e':MapEntry),es[i]?=some e->bM[i]?=some e'->ER S p e e'):OR S K p (.map es k) (.map bM k)
 |loop {l l':Loop} (h1:l.state=l'.state) (h2:l.pending=l'.pending) (h3:l.fn=l'.fn) (h4:AR S p l.tmps l'.tmps) (h5:l.params=l'.params)
   (h6:l.assign=l'.assign) (h7:l.body=l'.body) (h8:p l.defers l'.defers) (k1:S l.fn=true) (k2:K l.assign) (k3:K l.body) (k4:∀c,l.pending=some c->K c) (k5:K (.label (100000+l.fn))):OR S K p (.loop l) (.loop l')
 |number {a a':Addr} (l:Bool) (h:cx p a a'):OR S K p (.number a l) (.number a' l)
 |bV:OR S K p (.deferred none) (.deferred none)
 |bW:OR S K p (.deferred (some [])) (.deferred (some []))
theorem OR.mono {S:Nat->Bool} {K:Kz} {p q:Pi} (h:Le p q) (x:OR S K p o o'):OR S K q o o':=by
 cases x with
 |cells e fz hw g=>exact .cells e fz hw (g.mono h)
 |cU e fz dQ hl hz hs g=>exact .cU e fz dQ hl hz hs fun i v v' a b=>(g i v v' a b).mono h
 |map k g1 g2=>exact .map k g1 fun i e e' a b=>(g2 i e e' a b).mono h
 |loop h1 h2 h3 h4 h5 h6 h7 h8 k1 k2 k3 k4 k5=>exact .loop h1 h2 h3 (h4.mono h) h5 h6 h7 (h _ _ h8) k1 k2 k3 k4 k5
 |number l g=>exact .number l (g.mono h)
 |bV=>exact .bV
 |bW=>exact .bW
def fR (o o':Obj):Prop:=∀c e fz c' e' dQ,o=.cells c e fz->o'=.cells c' e' dQ->c'.size=c.size
def kN (P:Program) (p:Pi):Prop:=(∀r r' s s',p r r'->p s s'->r<P.globals.size->(r=s↔r'=s'))/\(∀r r',p r r'->(r<P.globals.size↔r'<P.globals.size))/\∀r r' s',p r r'->p r s'->r'=s'
def cP (P:Program):Sem α->Prop
 |.pure _=>False
 |.load _ _ k=>∀v,cP P (k v)
 |.store _ _ _ k=>cP P k
 |.new _ k=>∀r,cP P (k r)
 |.shape .. |.freeze .. |.frozen .. |.choose .. |.sys .. |.halt _=>True
 |.getObj _ k=>∀o,cP P (k o)
 |.setObj _ _ k=>cP P k
 |.program k=>cP P (k P)
 |.mark _ k=>cP P k
theorem cP.bind {P:Program} {f:α->Sem β}:∀{s:Sem α},cP P s->cP P (s.bind f):=by
 intro s;induction s with
 |pure a=>intro h;exact h.elim
 |load m a k ih=>intro h v;exact ih v (h v)
 |store m a v k ih=>intro h;exact ih h
 |new o k ih=>intro h r;exact ih r (h r)
 |shape r k ih=>intro h;exact trivial
 |freeze a n k ih=>intro h;exact trivial
 |frozen a k ih=>intro h;exact trivial
 |getObj r k ih=>intro h o;exact ih o (h o)
 |setObj r o k ih=>intro h;exact ih h
 |choose q k ih=>intro h;exact trivial
 |sys c k ih=>intro h;exact trivial
 |program k ih=>intro h;exact ih P h
 |mark m k ih=>intro h;exact ih h
 |halt x=>intro h;exact trivial
theorem cP.GR {P:Program} {f:α->Sem β} (g:∀a,cP P (f a)):∀s:Sem α,cP P (s.bind f):=by
 intro s;induction s with
 |pure a=>exact g a
 |load m a k ih=>intro v;exact ih v
 |store m a v k ih=>exact ih
 |new o k ih=>intro r;exact ih r
 |shape r k ih=>exact trivial
 |freeze a n k ih=>exact trivial
 |frozen a k ih=>exact trivial
 |getObj r k ih=>intro o;exact ih o
 |setObj r o k ih=>exact ih
 |choose q k ih=>exact trivial
 |sys c k ih=>exact trivial
 |program k ih=>exact ih P
 |mark m k ih=>exact ih
 |halt x=>exact trivial
def jb (P:Program) (F:Array Func) (S:Nat->Bool) (K:Kz) (N:Nat) (Q:Pi->α->β->Prop):Sem α->Sem β->Pi->Prop
 |.pure a,s',p=>match s' with|.pure b=>Q p a b|_=>False
 |.load m a k,s',p=>match s' with
  |.load m' a' k'=>m=.plain/\m'=.plain/\cx p a a'/\∀v v',VR S p v v'->jb P F S K N Q (k v) (k' v') p
  |_=>False
 |.store m a v k,s',p=>match s' with
  |.store m' a' v' k'=>m=.plain/\m'=.plain/\cx p a a'/\VR S p v v'/\jb P F S K N Q k k' p
  |_=>False
 |.new o k,s',p=>match s' with
  |.new o' k'=>OR S K p o o'/\fR o o'/\∀r r' q,Le p q->kN P q->q r r'->N<=r->(∀k,¬q.x r k)->jb P F S K N Q (k r) (k' r') q
  |_=>False
 |.shape ..,_,_=>True
 |.freeze ..,_,_=>True
 |.frozen ..,_,_=>True
 |.getObj r k,s',p=>match s' with
  |.getObj r' k'=>p r r'/\∀o o',OR S K p o o'->jb P F S K N Q (k o) (k' o') p
  |_=>False
 |.setObj r o k,s',p=>match s' with
  |.setObj r' o' k'=>p r r'/\OR S K p o o'/\fR o o'/\jb P F S K N Q k k' p
  |_=>False
 |.choose ..,_,_=>True
 |.sys ..,_,_=>True
 |.program k,s',p=>cP P (k P)\/∃k',s'=.program k'/\jb P F S K N Q (k P) (k' (aa P F)) p
 |.mark m k,s',p=>m=.noRoom->∃k',s'=.mark .noRoom k'/\jb P F S K N Q k k' p
 |.halt _,_,_=>True
def SR (P:Program) (F:Array Func) (S:Nat->Bool) (K:Kz) (N:Nat) (Q:Pi->α->β->Prop) (s:Sem α) (s':Sem β) (p:Pi):Prop:=kN P p->jb P F S K N Q s s' p
section
variable {P:Program} {F:Array Func} {S:Nat->Bool} {K:Kz} {N:Nat}
theorem jb.bind {Q:Pi->α->β->Prop} {Q':Pi->γ->δ->Prop} {f:α->Sem γ} {f':β->Sem δ}:
 ∀{s:Sem α} {s':Sem β} {p:Pi},kN P p->jb P F S K N Q s s' p->(∀q a b,Le p q->kN P q->Q q a b->jb P F S K N Q' (f a) (f' b) q)->jb P F S K N Q' (s>>=f) (s'>>=f') p:=by
 intro s;induction s with
 |pure a=>intro s' p hp h g;cases s'<;>first|exact g _ _ _ (Le.refl _) hp h|exact h.elim
 |load m a k ih=>intro s' p hp h g;cases s'<;>first|exact⟨h.1,h.2.1,h.2.2.1,fun v v' x=>ih v hp (h.2.2.2 v v' x) g⟩|exact h.elim
 |store m a v k ih=>intro s' p hp h g;cases s'<;>first|exact⟨h.1,h.2.1,h.2.2.1,h.2.2.2.1,ih hp h.2.2.2.2 g⟩|exact h.elim
 |new o k ih=>intro s' p hp h g;cases s'<;>first|exact⟨h.1,h.2.1,fun r r' q a b c d n=>ih r b (h.2.2 r r' q a b c d n) fun q' x y l=>g q' x y (a.trans l)⟩|exact h.elim
 |shape r k ih=>intro s' p hp h g;exact trivial
 |freeze a n k ih=>intro s' p hp h g;exact trivial
 |frozen a k ih=>intro s' p hp h g;exact trivial
 |getObj r k ih=>intro s' p hp h g;cases s'<;>first|exact⟨h.1,fun o o' a=>ih o hp (h.2 o o' a) g⟩|exact h.elim
 |setObj r o k ih=>intro s' p hp h g;cases s'<;>first|exact⟨h.1,h.2.1,h.2.2.1,ih hp h.2.2.2 g⟩|exact h.elim
 |choose q k ih=>intro s' p hp h g;exact trivial
 |sys c k ih=>intro s' p hp h g;exact trivial
 |program k ih=>
  intro s' p hp h g;rcases h with h|⟨k',e1,e2⟩
  .exact .inl h.bind
  .exact .inr ⟨fun x=>k' x>>=f',by rw[e1];rfl,ih P hp e2 g⟩
 |mark m k ih=>
  intro s' p hp h g;exact fun e=>let⟨k',e1,e2⟩:=h e;⟨k'>>=f',by rw[e1];rfl,ih hp e2 g⟩
 |halt x=>intro s' p hp h g;exact trivial
theorem SR.bind {Q:Pi->α->β->Prop} {Q':Pi->γ->δ->Prop} {f:α->Sem γ} {f':β->Sem δ} {s:Sem α} {s':Sem β} {p:Pi}
 (h:SR P F S K N Q s s' p) (g:∀q a b,Le p q->Q q a b->SR P F S K N Q' (f a) (f' b) q):SR P F S K N Q' (s>>=f) (s'>>=f') p:=
 fun hp=>jb.bind hp (h hp) fun q a b hq ho x=>g q a b hq x ho
end
def au (P:Program):Prop:=∀t i v,P.info? t=some i->i.zero=some v->plain 50 v=true
section
variable (P:Program) (F:Array Func)
end
section
variable {P:Program} {F:Array Func} {S:Nat->Bool} {K:Kz} {N:Nat} {p:Pi}
abbrev QV (S:Nat->Bool):Pi->Value->Value->Prop:=fun q v v'=>VR S q v v'
abbrev QA (S:Nat->Bool):Pi->Array Value->Array Value->Prop:=fun q v v'=>AR S q v v'
abbrev QE (α:Type):Pi->α->α->Prop:=fun _ a b=>a=b
abbrev QN (N:Nat):Pi->Addr->Addr->Prop:=fun q a b=>cx q a b/\N<=a.block/\∀k,¬q.x a.block k
abbrev QD:Pi->Addr->Addr->Prop:=fun q a b=>cx q a b
theorem SR.pure {Q:Pi->α->β->Prop} {a:α} {b:β} (h:Q p a b):SR P F S K N Q (Pure.pure a) (Pure.pure b) p:=fun _=>h
theorem SR.stuck {Q:Pi->α->β->Prop} {x:String} {s':Sem β}:SR P F S K N Q (Go.stuck x:Sem α) s' p:=fun _=>trivial
theorem SR.unsupported {Q:Pi->α->β->Prop} {u:Unsupported} {s':Sem β} (h:∀g,u≠ .initOrder g:=by intro g;exact fun h=>by cases h):SR P F S K N Q (Go.unsupported u:Sem α) s' p:=fun _=>trivial
theorem SR.goPanic {Q:Pi->α->β->Prop} (h:VR S p v v'):SR P F S K N Q (Go.goPanic v:Sem α) (Go.goPanic v':Sem β) p:=fun _=>trivial
theorem SR.choose (q:Question):SR P F S K N (QE Nat) (Go.choose q) (Go.choose q) p:=fun _=>trivial
theorem SR.load (h:cx p a a'):SR P F S K N (QV S) (Go.load a) (Go.load a') p:=fun _=>⟨rfl,rfl,h,fun _ _ g=>g⟩
theorem SR.store (h:cx p a a') (g:VR S p v v'):SR P F S K N (QE Unit) (Go.store a v) (Go.store a' v') p:=fun _=>⟨rfl,rfl,h,g,rfl⟩
theorem SR.newObj (h:OR S K p o o') (hs:fR o o'):SR P F S K N (fun q r r'=>q r r'/\N<=r/\∀k,¬q.x r k) (Go.newObj o) (Go.newObj o') p:=fun _=>⟨h,hs,fun _ _ _ _ _ g l n=>⟨g,l,n⟩⟩
theorem SR.shape (h:p r r'):SR P F S K N (QE (Option (TypeId×Nat))) (Go.shape r) (Go.shape r') p:=fun _=>trivial
theorem SR.getObj (h:p r r'):SR P F S K N (fun q o o'=>OR S K q o o') (Go.getObj r) (Go.getObj r') p:=fun _=>⟨h,fun _ _ g=>g⟩
theorem SR.setObj (h:p r r') (g:OR S K p o o') (hs:fR o o'):SR P F S K N (QE Unit) (Go.setObj r o) (Go.setObj r' o') p:=fun _=>⟨h,g,hs,rfl⟩
theorem SR.askRoom (n:Nat):SR P F S K N (QE Unit) (Go.askRoom n) (Go.askRoom n) p:=by
 unfold Go.askRoom;split
 .exact fun _ _=>⟨_,rfl,rfl⟩
 .exact fun _=>rfl
theorem SR.ite {Q:Pi->α->β->Prop} {c:Prop} [Decidable c] {s t:Sem α} {s' t':Sem β} (h:c->SR P F S K N Q s s' p) (g:¬c->SR P F S K N Q t t' p):SR P F S K N Q (if c then s else t) (if c then s' else t') p:=by
 by_cases hc:c
 .simp only[hc,if_true];exact h hc
 .simp only[hc,if_false];exact g hc
theorem SR.ab {Q':Pi->γ->δ->Prop} {f:α->Sem γ} {f':α->Sem δ} {s s':Sem α} (h:SR P F S K N (QE α) s s' p) (g:∀q a,Le p q->SR P F S K N Q' (f a) (f' a) q):SR P F S K N Q' (s>>=f) (s'>>=f') p:=
 h.bind fun q a b hq e=>by subst e;exact g q a hq
theorem SR.d9 {Q':Pi->γ->δ->Prop} {f:Program->Sem γ} {f':Program->Sem δ} (g:SR P F S K N Q' (f P) (f' (aa P F)) p):SR P F S K N Q' (Go.program>>=f) (Go.program>>=f') p:=fun hp=>.inr ⟨_,rfl,g hp⟩
theorem SR.fw {Q':Pi->γ->δ->Prop} {f:TypeInfo->Sem γ} {f':TypeInfo->Sem δ} (g:∀i,P.info? t=some i->SR P F S K N Q' (f i) (f' i) p):SR P F S K N Q' (Go.typeInfo t>>=f) (Go.typeInfo t>>=f') p:=by
 unfold Go.typeInfo;show SR P F S K N Q' ((Go.program>>=_)>>=f) ((Go.program>>=_)>>=f') p;refine fun hp=>.inr ⟨_,rfl,?_⟩;revert hp;show SR P F S K N Q' (Sem.bind (match P.info? t with|some i=>Pure.pure i|none=>Go.stuck "no such type") f) (Sem.bind (match P.info? t with|some i=>Pure.pure i|none=>Go.stuck "no such type") f') p;cases h:P.info? t with
 |none=>exact SR.stuck (x:= "no such type")
 |some i=>exact g i h
theorem SR.aM {Q':Pi->γ->δ->Prop} {f:TypeDesc->Sem γ} {f':TypeDesc->Sem δ} (g:∀i,P.underlying t=some i->SR P F S K N Q' (f i) (f' i) p):SR P F S K N Q' (Go.underlying t>>=f) (Go.underlying t>>=f') p:=by
 unfold Go.underlying;refine fun hp=>.inr ⟨_,rfl,?_⟩;revert hp;show SR P F S K N Q' (Sem.bind (match P.underlying t with|some i=>Pure.pure i|none=>Go.stuck "no such type") f) (Sem.bind (match P.underlying t with|some i=>Pure.pure i|none=>Go.stuck "no such type") f') p;cases h:P.underlying t with
 |none=>exact SR.stuck (x:= "no such type")
 |some i=>exact g i h
theorem SR.zeroValue (hz:au P) (t:TypeId):SR P F S K N (fun q a b=>a=b/\VR S q a b) (Go.zeroValue t) (Go.zeroValue t) p:=by
 unfold Go.zeroValue;refine SR.fw fun i hi=>?_;cases h:i.zero with
 |none=>exact SR.unsupported
 |some v=>exact fun _=>⟨rfl,VR.plain 50 v (hz t i v hi h)⟩
theorem SR.sizeOf (t:TypeId):SR P F S K N (QE Nat) (Go.sizeOf t) (Go.sizeOf t) p:=by
 unfold Go.sizeOf;exact SR.fw fun i _=>SR.pure rfl
theorem SR.isAgg (t:TypeId):SR P F S K N (QE Bool) (Go.isAgg t) (Go.isAgg t) p:=by
 unfold Go.isAgg;refine SR.aM fun i _=>?_;cases i<;>exact SR.pure rfl
theorem SR.loadCellsFrom:∀(n:Nat) {p:Pi} {a a':Addr} (i:Nat) {acc kl:Array Value},cx p a a'->AR S p acc kl->SR P F S K N (QA S) (Go.loadCellsFrom a i n acc) (Go.loadCellsFrom a' i n kl) p
 |0,_,_,_,_,_,_,_,hc=>SR.pure hc
 |n+1,_,_,_,i,_,_,ha,hc=>by
  simp only[Go.loadCellsFrom];refine(SR.load (ha.add i)).bind fun q v v' hq hv=>?_;exact SR.loadCellsFrom n (i+1) (ha.mono hq) ((hc.mono hq).push hv)
theorem SR.loadCells (h:cx p a a') (n:Nat):SR P F S K N (QA S) (Go.loadCells a n) (Go.loadCells a' n) p:=SR.loadCellsFrom n 0 h AR.empty
theorem SR.storeCells:∀(vs tB:List Value) {p:Pi} {a a':Addr} (i:Nat),cx p a a'->vs.length=tB.length->(∀(j:Nat) v v',vs[j]?=some v->tB[j]?=some v'->VR S p v v')->SR P F S K N (QE Unit) (Go.storeCells a vs i) (Go.storeCells a' tB i) p
 | [],[],_,_,_,_,_,_,_=>SR.pure rfl
 | [],_::_,_,_,_,_,_,hl,_=>by cases hl
 |_::_,[],_,_,_,_,_,hl,_=>by cases hl
 |v::vs,v'::tB,_,_,_,i,ha,hl,hv=>by
  simp only[Go.storeCells];refine(SR.store (ha.add i) (hv 0 v v' rfl rfl)).ab fun q _ hq=>?_;exact SR.storeCells vs tB (i+1) (ha.mono hq) (by simpa using hl) fun j x x' h1 h2=>(hv (j+1) x x' h1 h2).mono hq
theorem SR.ca (h:cx p a a') (hx:AR S p xs aQ):SR P F S K N (QE Unit) (Go.storeCells a xs.toList) (Go.storeCells a' aQ.toList) p:=
 SR.storeCells _ _ 0 h (by simpa using hx.1) fun j v v' h1 h2=>hx.2 j v v' (by simpa using h1) (by simpa using h2)
theorem SR.loadVar (t:TypeId) (h:cx p a a'):SR P F S K N (QV S) (Go.loadVar t a) (Go.loadVar t a') p:=by
 unfold Go.loadVar;refine(SR.isAgg t).ab fun q b hq=>?_;have h:=h.mono hq;cases b with
 |true=>
  simp only[if_true];refine(SR.sizeOf t).ab fun q n hq=>?_;exact(SR.loadCells (h.mono hq) n).bind fun q x x' hq hx=>SR.pure hx.agg
 |false=>exact SR.load h
theorem SR.storeVar (t:TypeId) (h:cx p a a') (hv:VR S p v v'):SR P F S K N (QE Unit) (Go.storeVar t a v) (Go.storeVar t a' v') p:=by
 unfold Go.storeVar;refine(SR.sizeOf t).ab fun q n hq=>?_;have hc:=(hv.mono hq).cells;rw[<-hc.1];split
 .exact SR.stuck
 .exact SR.ca (h.mono hq) hc
theorem SR.newRow (e:TypeId) (h:AR S p xs aQ):SR P F S K N (QN N) (Go.newRow e xs) (Go.newRow e aQ) p:=by
 unfold Go.newRow;exact(SR.newObj (.cells e (0,0) (Nat.le_refl 0) h) fun _ _ _ _ _ _ a b=>by cases a;cases b;exact h.1.symm).bind fun q r r' _ hr=>SR.pure ⟨⟨hr.1,rfl,rfl⟩,hr.2⟩
theorem SR.newVar (e:TypeId) (h:VR S p v v'):SR P F S K N (QN N) (Go.newVar e v) (Go.newVar e v') p:=SR.newRow e h.cells
theorem SR.part (t:TypeId) (h:AR S p xs aQ) (off:Nat):SR P F S K N (QV S) (Go.part t xs off) (Go.part t aQ off) p:=by
 unfold Go.part;refine(SR.isAgg t).ab fun q b hq=>?_;have h:=h.mono hq;cases b with
 |true=>
  simp only[if_true];exact(SR.sizeOf t).ab fun q n hq=>SR.pure ((h.mono hq).extract _ _).agg
 |false=>
  simp only[Bool.false_eq_true,if_false];cases hx:xs[off]? with
  |none=>exact SR.stuck
  |some v=>obtain⟨v',iD,hr⟩:=h.get hx;rw[iD];exact SR.pure hr
theorem SR.asIntOf (h:VR S p v v'):SR P F S K N (QE (IntKind×Int)) (Go.asIntOf v) (Go.asIntOf v') p:=by
 cases h<;>first|exact SR.pure rfl|exact SR.unsupported|exact SR.stuck
theorem SR.asInt (h:VR S p v v'):SR P F S K N (QE Int) (Go.asInt v) (Go.asInt v') p:=(SR.asIntOf h).ab fun _ _ _=>SR.pure rfl
theorem SR.asBool (h:VR S p v v'):SR P F S K N (QE Bool) (Go.asBool v) (Go.asBool v') p:=by
 cases h<;>first|exact SR.pure rfl|exact SR.stuck
theorem SR.asAgg (h:VR S p v v'):SR P F S K N (QA S) (Go.asAgg v) (Go.asAgg v') p:=by
 cases h<;>first|exact SR.stuck|(rename_i a b;exact SR.pure ⟨a,b⟩)
theorem SR.runtimePanic {Q:Pi->α->β->Prop} (e:RuntimeError) (h:∀a b c d,e≠ .typeAssertion a b c d) (h2:e≠ .panicNil) (h3:∀t,e≠ .unhashable t):SR P F S K N Q (Go.runtimePanic e:Sem α) (Go.runtimePanic e:Sem β) p:=by
 unfold Go.runtimePanic;refine SR.d9 ?_;simp only[bY,aA];cases e with
 |bounds x y s c=>exact SR.goPanic (VR.plain 5 _ (by simp[plain,strVal]))
 |error m=>exact SR.goPanic (VR.plain 5 _ (by simp[plain,strVal]))
 |plain m=>exact SR.goPanic (VR.plain 5 _ (by simp[plain,strVal]))
 |nilDeref=>exact SR.goPanic (VR.plain 5 _ (by simp[plain,strVal]))
 |typeAssertion a b c d=>exact absurd rfl (h a b c d)
 |panicNil=>exact absurd rfl h2
 |unhashable t=>exact absurd rfl (h3 t)
theorem SR.err {Q:Pi->α->β->Prop} (m:String):SR P F S K N Q (Go.runtimePanic (.error m):Sem α) (Go.runtimePanic (.error m):Sem β) p:=
 SR.runtimePanic _ (fun _ _ _ _ h=>by cases h) (fun h=>by cases h) (fun _ h=>by cases h)
theorem SR.nO {Q:Pi->α->β->Prop} (m:String):SR P F S K N Q (Go.runtimePanic (.plain m):Sem α) (Go.runtimePanic (.plain m):Sem β) p:=
 SR.runtimePanic _ (fun _ _ _ _ h=>by cases h) (fun h=>by cases h) (fun _ h=>by cases h)
theorem SR.nilDeref {Q:Pi->α->β->Prop}:SR P F S K N Q (Go.runtimePanic .nilDeref:Sem α) (Go.runtimePanic .nilDeref:Sem β) p:=
 SR.runtimePanic _ (fun _ _ _ _ h=>by cases h) (fun h=>by cases h) (fun _ h=>by cases h)
theorem SR.boundsPanic {Q:Pi->α->β->Prop} (k:IntKind) (x y:Int) (c:BoundsCode):SR P F S K N Q (Go.boundsPanic k x y c:Sem α) (Go.boundsPanic k x y c:Sem β) p:=by
 have key:∀(q:Pi) (b:Bool),SR P F S K N Q (Go.runtimePanic (.bounds (IntKind.i64.wrap x) y b c):Sem α) (Go.runtimePanic (.bounds (IntKind.i64.wrap x) y b c):Sem β) q:=
  fun q b=>SR.runtimePanic _ (fun _ _ _ _ h=>by cases h) (fun h=>by cases h) (fun _ h=>by cases h)
 unfold Go.boundsPanic;dsimp only;refine SR.ite (fun _=>?_) (fun _=>?_)
 .refine SR.ab (α:=Bool) ?_ fun q b hq=>key q b;exact(SR.choose _).ab (Q':=QE Bool) fun q n hq=>SR.pure rfl
 .exact key p _
theorem SR.asAddr (h:VR S p v v'):SR P F S K N QD (Go.asAddr v) (Go.asAddr v') p:=by
 cases h<;>first|exact SR.stuck|exact SR.nilDeref|(rename_i g;exact SR.pure ⟨g,rfl,rfl⟩)
theorem SR.sureAddr (h:VR S p v v'):SR P F S K N QD (Instr.sureAddr v) (Instr.sureAddr v') p:=by
 cases h<;>first|exact SR.stuck|(rename_i g;exact SR.pure ⟨g,rfl,rfl⟩)
end
end Go.Ev
