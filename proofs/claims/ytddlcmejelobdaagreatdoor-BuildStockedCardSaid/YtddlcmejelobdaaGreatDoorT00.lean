/- A part. Conditions: none. -/
import Derived.Calls
set_option linter.all false
namespace Go.aq
variable {a a':Addr} {c i n r r':Nat} {cD xs ys:Array Value} {cS es es1:Array Event} {fR w w' w1:World} {o o' x x':Obj} {t:TypeId} {v v':Value} {α β γ δ:Type}
structure Pi where
 m:Nat->Nat->Prop
 x:Nat->Nat->Prop
 l:Bool
instance : CoeFun Pi (fun _ => Nat -> Nat -> Prop) := ⟨Pi.m⟩
structure Le (p q:Pi):Prop where
 m:∀r r',p r r'->q r r'
 x:∀r n,p.x r n->q.x r n
 xr:∀r r' n,p r r'->q.x r n->p.x r n
 l:q.l=p.l
instance (p q : Pi) : CoeFun (Le p q) (fun _ => ∀ r r', p r r' -> q r r') := ⟨Le.m⟩
theorem Le.refl (p:Pi):Le p p:=⟨fun _ _ h=>h,fun _ _ h=>h,fun _ _ _ _ h=>h,rfl⟩
theorem Le.trans {p q s:Pi} (h:Le p q) (k:Le q s):Le p s:=⟨fun r r' x=>k.m r r' (h.m r r' x),fun r n x=>k.x r n (h.x r n x),fun r r' n a x=>h.xr r r' n a (k.xr r r' n (h.m r r' a) x),k.l.trans h.l⟩
def dv:Value->Bool
 |.agg _|.tuple _=>false
 |_=>true
def NE:Value->Bool
 |.agg _|.tuple _|.bool _|.int _ _|.string _|.pointer none|.slice none _ _|.map none|.chan _|.nilFunc|.nilIface|.func (.method _) _ _=>false
 |_=>true
abbrev MF:Value:=.func (.method "") #[.iface 1000000 .nilIface] #[]
def JK:Nat:=1000000
inductive VR (S:Nat->Bool) (p:Pi):Value->Value->Prop
 |bool (b:Bool):VR S p (.bool b) (.bool b)
 |int (k:IntKind) (n:Int):VR S p (.int k n) (.int k n)
 |string (s:ByteArray):VR S p (.string s) (.string s)
 |tu:VR S p (.pointer none) (.pointer none)
 |ptr {r r':Nat} (o:Nat) (sp:Option Nat) (h:p r r'):VR S p (.pointer (some ⟨r,o,sp⟩)) (.pointer (some ⟨r',o,sp⟩))
 |cU (l c:Nat):VR S p (.slice none l c) (.slice none l c)
 |slice {r r':Nat} (o:Nat) (sp:Option Nat) (l c:Nat) (h:p r r') (hX:S 999999=true->∀k,¬p.x r k):VR S p (.slice (some ⟨r,o,sp⟩) l c) (.slice (some ⟨r',o,sp⟩) l c)
 |cV {r r' k:Nat} (o l:Nat) {c:Nat} (hl:p.l=true) (h:p r r') (h0:0<c) (hx:p.x r k):VR S p (.slice (some ⟨r,o,none⟩) l c) (.slice (some ⟨r',o,none⟩) l (c+k))
 |eR {r r':Nat} (o o' c':Nat) (hl:p.l=true) (h:p r r'):VR S p (.slice (some ⟨r,o,some 0⟩) 0 0) (.slice (some ⟨r',o',none⟩) 0 c')
 |tv:VR S p (.map none) (.map none)
 |map {r r':Nat} (h:p r r'):VR S p (.map (some r)) (.map (some r'))
 |chan (c:Option Nat):VR S p (.chan c) (.chan c)
 |func {f:Nat} {xs cD ys EC:Array Value} (h:S f=true) (hx:xs.size=cD.size) (hy:ys.size=EC.size)
   (gx:∀(i:Nat) (v v':Value),xs[i]?=some v->cD[i]?=some v'->VR S p v v') (gy:∀(i:Nat) (v v':Value),ys[i]?=some v->EC[i]?=some v'->VR S p v v'):
   VR S p (.func (.func f) xs ys) (.func (.func f) cD EC)
 |yield {l l':Nat} (h:p l l'):VR S p (.func (.yield l) #[] #[]) (.func (.yield l') #[] #[])
 |nilFunc:VR S p .nilFunc .nilFunc
 |nilIface:VR S p .nilIface .nilIface
 |iface {t:TypeId} {v v':Value} (h:VR S p v v'):VR S p (.iface t v) (.iface t v')
 |agg {xs cD:Array Value} (hx:xs.size=cD.size) (gx:∀(i:Nat) (v v':Value),xs[i]?=some v->cD[i]?=some v'->VR S p v v'):VR S p (.agg xs) (.agg cD)
 |tuple {xs cD:Array Value} (hx:xs.size=cD.size) (gx:∀(i:Nat) (v v':Value),xs[i]?=some v->cD[i]?=some v'->VR S p v v'):VR S p (.tuple xs) (.tuple cD)
 |dy (hl:p.l=false) (a a':Addr):VR S p (.slice (some a) 0 0) (.slice (some a') 0 0)
 |oO {v':Value} (hl:p.l=false) (hj:S JK=true) (h:NE v'=true):VR S p (.tuple #[]) v'
 |AI (hl:p.l=false) (hj:S JK=true) (n:String) (xs ys:Array Value):VR S p MF (.func (.method n) xs ys)
theorem VR.mono {S:Nat->Bool} {p q:Pi} (h:Le p q) (x:VR S p v v'):VR S q v v':=by
 induction x with
 |bool b=>exact .bool b
 |int k n=>exact .int k n
 |string s=>exact .string s
 |tu=>exact .tu
 |ptr o sp g=>exact .ptr o sp (h _ _ g)
 |cU l c=>exact .cU l c
 |slice o sp l c g hX=>exact .slice o sp l c (h _ _ g) fun hs k hk=>hX hs k (h.xr _ _ _ g hk)
 |cV o l hl g h0 hx=>exact .cV o l (h.l.trans hl) (h _ _ g) h0 (h.x _ _ hx)
 |eR o o' c' hl g=>exact .eR o o' c' (h.l.trans hl) (h _ _ g)
 |tv=>exact .tv
 |map g=>exact .map (h _ _ g)
 |chan c=>exact .chan c
 |func hS hx hy _ _ Tj Yi=>exact .func hS hx hy Tj Yi
 |yield g=>exact .yield (h _ _ g)
 |nilFunc=>exact .nilFunc
 |nilIface=>exact .nilIface
 |iface _ ih=>exact .iface ih
 |agg hx _ ih=>exact .agg hx ih
 |tuple hx _ ih=>exact .tuple hx ih
 |dy hl a a'=>exact .dy (h.l.trans hl) a a'
 |oO hl hj g=>exact .oO (h.l.trans hl) hj g
 |AI hl hj n xs ys=>exact .AI (h.l.trans hl) hj n xs ys
def AR (S:Nat->Bool) (p:Pi) (xs ys:Array Value):Prop:=xs.size=ys.size/\∀(i:Nat) (v v':Value),xs[i]?=some v->ys[i]?=some v'->VR S p v v'
section
variable {S:Nat->Bool} {p q:Pi}
theorem AR.mono (h:Le p q) (x:AR S p xs ys):AR S q xs ys:=⟨x.1,fun i v v' a b=>(x.2 i v v' a b).mono h⟩
theorem AR.empty:AR S p #[] #[]:=⟨rfl,fun i v v' h=>by simp at h⟩
theorem AR.agg {xs ys:Array Value} (h:AR S p xs ys):VR S p (.agg xs) (.agg ys):=.agg h.1 h.2
theorem AR.tuple (h:AR S p xs ys):VR S p (.tuple xs) (.tuple ys):=.tuple h.1 h.2
theorem AR.get (h:AR S p xs ys) (hi:xs[i]?=some v):∃v',ys[i]?=some v'/\VR S p v v':=by
 have ar:i<ys.size:=by rw[<-h.1];exact(Array.getElem?_eq_some_iff.1 hi).1
 exact⟨ys[i],Array.getElem?_eq_getElem ar,h.2 i v _ hi (Array.getElem?_eq_getElem ar)⟩
theorem AR.none (h:AR S p xs ys) (hi:xs[i]?=.none):ys[i]?=.none:=by
 rw[Array.getElem?_eq_none_iff]at hi⊢;rw[<-h.1];exact hi
theorem AR.getD (h:AR S p xs ys) (i:Nat) {d d':Value} (hd:VR S p d d'):VR S p (xs.getD i d) (ys.getD i d'):=by
 rw[Array.getD_eq_getD_getElem?,Array.getD_eq_getD_getElem?];cases hx:xs[i]? with
 |none=>rw[h.none hx];exact hd
 |some v=>obtain⟨v',np,hr⟩:=h.get hx;rw[np];exact hr
theorem AR.push (h:AR S p xs ys) (hv:VR S p v v'):AR S p (xs.push v) (ys.push v'):=by
 refine⟨by simp[h.1],fun i a b ha hb=>?_⟩;rw[Array.getElem?_push]at ha hb;rw[h.1]at ha;by_cases hi:i=ys.size
 .simp only[hi,if_true,Option.some.injEq]at ha hb;subst ha;subst hb;exact hv
 .simp only[hi,if_false]at ha hb;exact h.2 i a b ha hb
theorem AR.set (h:AR S p xs ys) (i:Nat) (hv:VR S p v v'):AR S p (xs.setIfInBounds i v) (ys.setIfInBounds i v'):=by
 refine⟨by simp[h.1],fun j a b ha hb=>?_⟩;rw[Array.getElem?_setIfInBounds]at ha hb;rw[h.1]at ha;by_cases qH:i=j
 .subst qH;simp only[if_true]at ha hb;split at ha
  .rename_i ar;simp only[ar,if_true,Option.some.injEq]at ha hb;subst ha;subst hb;exact hv
  .cases ha
 .simp only[qH,if_false]at ha hb;exact h.2 j a b ha hb
theorem AR.append {as bs:Array Value} (h:AR S p xs ys) (k:AR S p as bs):AR S p (xs++as) (ys++bs):=by
 refine⟨by simp[h.1,k.1],fun i a b ha hb=>?_⟩;rw[Array.getElem?_append]at ha hb;rw[h.1]at ha;split at ha
 .rename_i ar;simp only[ar,if_true]at hb;exact h.2 i a b ha hb
 .rename_i ar;simp only[ar,if_false]at hb;exact k.2 _ a b ha hb
theorem AR.extract (h:AR S p xs ys) (i j:Nat):AR S p (xs.extract i j) (ys.extract i j):=by
 refine⟨by simp[h.1],fun k a b ha hb=>?_⟩;rw[Array.getElem?_extract]at ha hb;split at ha
 .split at hb
  .exact h.2 _ a b ha hb
  .cases hb
 .cases ha
theorem AR.one (h:VR S p v v'):AR S p #[v] #[v']:=AR.push AR.empty h
theorem AR.replicate (n:Nat) (h:VR S p v v'):AR S p (Array.replicate n v) (Array.replicate n v'):=by
 refine⟨by simp,fun i a b ha hb=>?_⟩;rw[Array.getElem?_replicate]at ha hb;split at ha
 .rename_i ar;simp only[ar,if_true,Option.some.injEq]at ha hb;subst ha;subst hb;exact h
 .cases ha
theorem AR.map {α:Type} (l:Array α) (f g:α->Value) (h:∀x∈l,VR S p (f x) (g x)):AR S p (l.map f) (l.map g):=by
 refine⟨by simp,fun i a b ha hb=>?_⟩;rw[Array.getElem?_map]at ha hb;cases hl:l[i]? with
 |none=>rw[hl]at ha;cases ha
 |some x=>
  rw[hl]at ha hb;simp only[Option.map_some,Option.some.injEq]at ha hb;subst ha;subst hb;exact h x (Array.mem_of_getElem? hl)
theorem AR.ofFn (n:Nat) (f g:Nat->Value) (h:∀i,VR S p (f i) (g i)):AR S p ((Array.range n).map f) ((Array.range n).map g):=AR.map _ f g fun x _=>h x
theorem VR.cells {v v':Value} (h:VR S p v v'):AR S p v.cells v'.cells:=by
 cases h with
 |agg hx gx=>exact⟨hx,gx⟩
 |bool b=>exact AR.one (.bool b)
 |int k n=>exact AR.one (.int k n)
 |string s=>exact AR.one (.string s)
 |tu=>exact AR.one .tu
 |ptr o sp g=>exact AR.one (.ptr o sp g)
 |cU l c=>exact AR.one (.cU l c)
 |slice o sp l c g hX=>exact AR.one (.slice o sp l c g hX)
 |cV o l hl g h0 hx=>exact AR.one (.cV o l hl g h0 hx)
 |eR o o' c' hl g=>exact AR.one (.eR o o' c' hl g)
 |tv=>exact AR.one .tv
 |map g=>exact AR.one (.map g)
 |chan c=>exact AR.one (.chan c)
 |func a b c d e=>exact AR.one (.func a b c d e)
 |yield g=>exact AR.one (.yield g)
 |nilFunc=>exact AR.one .nilFunc
 |nilIface=>exact AR.one .nilIface
 |iface g=>exact AR.one (.iface g)
 |tuple hx gx=>exact AR.one (.tuple hx gx)
 |dy hl a a'=>exact AR.one (.dy hl a a')
 |oO hl hj h=>
  have e:v'.cells=#[v']:=by cases v'<;>first|rfl|cases h
  rw[e];exact AR.one (.oO hl hj h)
 |AI hl hj n xs ys=>exact AR.one (.AI hl hj n xs ys)
end
def plain:Nat->Value->Bool
 |_,.bool _|_,.int _ _|_,.string _|_,.pointer none|_,.slice none _ _|_,.map none|_,.chan none|_,.nilFunc|_,.nilIface=>true
 |n+1,.agg xs|n+1,.tuple xs=>xs.all (plain n)
 |n+1,.iface _ v=>plain n v
 |_,_=>false
theorem VR.plain {S:Nat->Bool} {p:Pi}:∀(n:Nat) (v:Value),plain n v=true->VR S p v v:=by
 intro n;induction n with
 |zero=>
  intro v h;cases v<;>try simp only[aq.plain,Bool.false_eq_true]at h
  case bool b=>exact .bool b
  case int k n=>exact .int k n
  case string s=>exact .string s
  case pointer a=>cases a<;>first|exact .tu|exact absurd h (by simp[aq.plain])
  case slice a l c=>cases a<;>first|exact .cU l c|exact absurd h (by simp[aq.plain])
  case map a=>cases a<;>first|exact .tv|exact absurd h (by simp[aq.plain])
  case chan a=>exact .chan a
  case nilFunc=>exact .nilFunc
  case nilIface=>exact .nilIface
 |succ n ih=>
  intro v h;cases v<;>try simp only[aq.plain,Bool.false_eq_true]at h
  case bool b=>exact .bool b
  case int k n=>exact .int k n
  case string s=>exact .string s
  case pointer a=>cases a<;>first|exact .tu|exact absurd h (by simp[aq.plain])
  case slice a l c=>cases a<;>first|exact .cU l c|exact absurd h (by simp[aq.plain])
  case map a=>cases a<;>first|exact .tv|exact absurd h (by simp[aq.plain])
  case chan a=>exact .chan a
  case nilFunc=>exact .nilFunc
  case nilIface=>exact .nilIface
  case iface t v=>exact .iface (ih v h)
  case agg xs=>
   refine .agg rfl fun i v v' hv np=>?_;rw[hv]at np;cases np;obtain⟨ar,he⟩:=Array.getElem?_eq_some_iff.1 hv;have:=Array.all_eq_true.1 h i ar;rw[he]at this;exact ih v this
  case tuple xs=>
   refine .tuple rfl fun i v v' hv np=>?_;rw[hv]at np;cases np;obtain⟨ar,he⟩:=Array.getElem?_eq_some_iff.1 hv;have:=Array.all_eq_true.1 h i ar;rw[he]at this;exact ih v this
abbrev ac (P:Program) (F:Array Func):Program:={P with funcs:=F}
def hU (p:Pi) (a a':Addr):Prop:=p a.block a'.block/\a.off=a'.off/\a.spot=a'.spot
theorem hU.mono {p q:Pi} (h:Le p q) (x:hU p a a'):hU q a a':=⟨h _ _ x.1,x.2⟩
theorem hU.add {p:Pi} (x:hU p a a') (n:Nat):hU p (a.add n) (a'.add n):=by
 unfold Addr.add;split
 .exact x
 .exact⟨x.1,by simp[x.2.1],rfl⟩
theorem hU.ptr {S:Nat->Bool} {p:Pi} (x:hU p a a'):VR S p (.pointer (some a)) (.pointer (some a')):=by
 obtain⟨b,o,sp⟩:=a;obtain⟨b',o',sp'⟩:=a';obtain⟨h1,h2,h3⟩:=x;simp only at h1 h2 h3;subst h2;subst h3;exact .ptr o sp h1
theorem hU.sl {S:Nat->Bool} {p:Pi} (x:hU p a a') (hX:S 999999=true->∀k,¬p.x a.block k) (l c:Nat):VR S p (.slice (some a) l c) (.slice (some a') l c):=by
 obtain⟨b,o,sp⟩:=a;obtain⟨b',o',sp'⟩:=a';obtain⟨h1,h2,h3⟩:=x;simp only at h1 h2 h3;subst h2;subst h3;exact .slice o sp l c h1 hX
def ER (S:Nat->Bool) (p:Pi) (e e':MapEntry):Prop:=VR S p e.key e'.key/\VR S p e.val e'.val/\e.born=e'.born
theorem ER.mono {S:Nat->Bool} {p q:Pi} (h:Le p q) {e e':MapEntry} (x:ER S p e e'):ER S q e e':=⟨x.1.mono h,x.2.1.mono h,x.2.2⟩
structure Kz where
 k:Code->Prop
 z:TypeId->Value->Prop
instance : CoeFun Kz (fun _ => Code -> Prop) := ⟨Kz.k⟩
inductive OR (S:Nat->Bool) (K:Kz) (p:Pi):Obj->Obj->Prop
 |cells {c c':Array Value} (e:TypeId) (fz:Nat×Nat) (hw:p.l=true->fz.1<=fz.2) (h:AR S p c c'):OR S K p (.cells c e fz) (.cells c' e fz)
 |cg {c c':Array Value} (hl:p.l=true) (e:TypeId) (fz eS:Nat×Nat) (hc:c.size<=c'.size) (hz:(fz.1=0/\c.size<=fz.2)\/((∀i,i<c'.size->¬(eS.1<=i/\i<eS.2))/\(S 999999=true->eS=(0,0)))) (hs:∀(i:Nat) (v':Value),c.size<=i->c'[i]?=some v'->(∃n,plain n v'=true)/\K.z e v') (h:∀(i:Nat) (v v':Value),c[i]?=some v->c'[i]?=some v'->VR S p v v'):OR S K p (.cells c e fz) (.cells c' e eS)
 |map {es cS:Array MapEntry} (k:Nat) (h:es.size=cS.size) (g:∀(i:Nat) (e e':MapEntry),es[i]?=some e->cS[i]?=some e'->ER S p e e'):OR S K p (.map es k) (.map cS k)
 |loop {l l':Loop} (h1:l.state=l'.state) (h2:l.pending=l'.pending) (h3:l.fn=l'.fn) (h4:AR S p l.tmps l'.tmps) (h5:l.params=l'.params)
   (h6:l.assign=l'.assign) (h7:l.body=l'.body) (h8:p l.defers l'.defers) (k1:S l.fn=true) (k2:K l.assign) (k3:K l.body) (k4:∀c,l.pending=some c->K c) (k5:K (.label (100000+l.fn))):OR S K p (.loop l) (.loop l')
 |number {a a':Addr} (l:Bool) (h:hU p a a'):OR S K p (.number a l) (.number a' l)
 |dJ:OR S K p (.deferred none) (.deferred none)
 |dK:OR S K p (.deferred (some [])) (.deferred (some []))
theorem OR.mono {S:Nat->Bool} {K:Kz} {p q:Pi} (h:Le p q) (x:OR S K p o o'):OR S K q o o':=by
 cases x with
 |cells e fz hw g=>exact .cells e fz (fun x=>hw (h.l.symm.trans x)) (g.mono h)
 |cg hl e fz eS hc hz hs g=>exact .cg (h.l.trans hl) e fz eS hc hz hs fun i v v' a b=>(g i v v' a b).mono h
 |map k g1 g2=>exact .map k g1 fun i e e' a b=>(g2 i e e' a b).mono h
 |loop h1 h2 h3 h4 h5 h6 h7 h8 k1 k2 k3 k4 k5=>exact .loop h1 h2 h3 (h4.mono h) h5 h6 h7 (h _ _ h8) k1 k2 k3 k4 k5
 |number l g=>exact .number l (g.mono h)
 |dJ=>exact .dJ
 |dK=>exact .dK
def WM (S:Nat->Bool) (p:Pi) (o o':Obj):Prop:=
 ∃c c' e fz,o=.cells c e (0,c.size)/\o'=.cells c' e fz/\AR S p c c'
theorem WM.mono {S:Nat->Bool} {p q:Pi} (h:Le p q) (x:WM S p o o'):WM S q o o':=by
 obtain⟨c,c',e,fz,h1,h2,h3⟩:=x;exact⟨c,c',e,fz,h1,h2,h3.mono h⟩
def iu (o o':Obj):Prop:=∀c e fz c' e' eS,o=.cells c e fz->o'=.cells c' e' eS->c'.size=c.size
structure nr (P:Program) (p:Pi):Prop where
 inj:∀r r' s s',p r r'->p s s'->(p.l=true->r<P.globals.size)->(r=s↔r'=s')
 fix:∀r r',p r r'->(r<P.globals.size↔r'<P.globals.size)
 one:∀r r' s',p r r'->p r s'->r'=s'
 tw:p.l=false->∀r k,¬p.x r k
theorem nr.two {P:Program} {p:Pi} (h:nr P p) (hl:p.l=false) (r r' s s':Nat) (a:p r r') (b:p s s'):r=s↔r'=s':=h.inj r r' s s' a b fun x=>by rw[hl]at x;cases x
structure WR (P:Program) (S:Nat->Bool) (K:Kz) (N:Nat) (p:Pi) (w w':World):Prop where
 inj:∀r r' s s',p r r'->p s s'->(r=s↔r'=s')
 blk:∀r r',p r r'->∃o o',w.heap[r]?=some o/\w'.heap[r']?=some o'/\((r<N/\WM S p o o')\/(N<=r/\OR S K p o o'))
 low:N<=w.heap.size
 fix:∀r r',p r r'->(r<P.globals.size↔r'<P.globals.size)
 fC:P.globals.size<=w.heap.size
 jq:P.globals.size<=w'.heap.size
 str:p.l=false
 tw:∀r k,¬p.x r k
def dead:Halt->Prop
 |.stuck _=>True
 |.unsupported (.initOrder _)=>False
 |.unsupported _=>True
 |_=>False
theorem VR.dv {S:Nat->Bool} {p:Pi} (h:VR S p v v') (g:aq.dv v=true):aq.dv v'=true:=by cases h<;>first|rfl|cases g
theorem jf (P:Program) (m:Mode) (a:Addr) (v:Value) (k:Sem α) (w:World) (es:Array Event) (h:dv v=false):
 ∃x,(Sem.store m a v k).runT P w es=(.halt x w,es)/\dead x:=by
 cases v<;>first|exact⟨_,rfl,trivial⟩|cases h
theorem cG (P:Program) (m:Mode) (a:Addr) (v:Value) (k:Sem α) (w:World) (es:Array Event) (h:dv v=true):
 (Sem.store m a v k).runT P w es=(match w.cell? a with
   |some _=>if w.frozen? a then(.halt (.unsupported (.unsafePointer "a write to bytes that a string shares")) w,es)else k.runT P (w.setCell a v) (es.push ⟨.cell a,true,m== .atomic⟩)
   |none=>match w.farStore P a v (m== .atomic)with
    |.ok (w',touched)=>k.runT P w' (es++touched.toArray.map (⟨.cell ·,true,m== .atomic⟩))
    |.error h=>(.halt h w,es)):=by
 cases v<;>first|rfl|cases h
def az (P:Program) (s:Sem α):Prop:=∀(w:World) (es:Array Event),∃h w1 es1,s.runT P w es=(.halt h w1,es1)/\dead h
theorem re (P:Program) (f:α->Sem β) {h:Halt}:∀(s:Sem α) (w:World) (es:Array Event),s.runT P w es=(.halt h w1,es1)->(s.bind f).runT P w es=(.halt h w1,es1):=by
 intro s;induction s with
 |pure a=>intro w es e;cases e
 |load m a k ih=>
  intro w es e;simp only[Sem.bind,Sem.runT]at e⊢;cases hc:w.cell? a with
  |some v=>rw[hc]at e;exact ih v _ _ e
  |none=>
   rw[hc]at e;simp only at e⊢;cases hf:w.farLoad P a (m== .atomic)with
   |ok x=>rw[hf]at e;exact ih _ _ _ e
   |error x=>rw[hf]at e;simp only[Prod.mk.injEq,Result.halt.injEq]at e⊢;exact e
 |store m a v k ih=>
  intro w es e;cases hv:dv v with
  |false=>
   cases v<;>first|(cases hv;done)|(simp only[Sem.bind,Sem.runT,Prod.mk.injEq,Result.halt.injEq]at e⊢;exact e)
  |true=>
   rw[cG P m a v k w es hv]at e;show(Sem.store m a v (k.bind f)).runT P w es=_;rw[cG P m a v _ w es hv];cases hc:w.cell? a with
   |some u=>
    rw[hc]at e;simp only at e⊢;by_cases hz:w.frozen? a=true
    .simp only[hz,if_true,Prod.mk.injEq,Result.halt.injEq]at e⊢;exact e
    .simp only[hz,Bool.false_eq_true,if_false]at e⊢;exact ih _ _ e
   |none=>
    rw[hc]at e;simp only at e⊢;cases hf:w.farStore P a v (m== .atomic)with
    |ok x=>rw[hf]at e;exact ih _ _ e
    |error x=>rw[hf]at e;simp only[Prod.mk.injEq,Result.halt.injEq]at e⊢;exact e
 |new o k ih=>intro w es e;exact ih _ _ _ e
 |shape r k ih=>intro w es e;exact ih _ _ _ e
 |freeze a n k ih=>intro w es e;exact ih _ _ e
 |frozen a k ih=>intro w es e;exact ih _ _ _ e
 |getObj r k ih=>
  intro w es e;simp only[Sem.bind,Sem.runT]at e⊢;cases ho:w.heap[r]? with
  |none=>rw[ho]at e;simp only[Prod.mk.injEq,Result.halt.injEq]at e⊢;exact e
  |some o=>rw[ho]at e;cases o<;>first|exact ih _ _ _ e|(simp only[Prod.mk.injEq,Result.halt.injEq]at e⊢;exact e)
 |setObj r o k ih=>
  intro w es e;simp only[Sem.bind,Sem.runT]at e⊢;cases ho:w.heap[r]? with
  |none=>rw[ho]at e;simp only[Prod.mk.injEq,Result.halt.injEq]at e⊢;exact e
  |some o'=>rw[ho]at e;cases o'<;>first|exact ih _ _ e|(simp only[Prod.mk.injEq,Result.halt.injEq]at e⊢;exact e)
 |choose q k ih=>
  intro w es e;simp only[Sem.bind,Sem.runT]at e⊢;split at e
  .rename_i hq;simp only[hq,if_true];exact ih _ _ _ e
  .rename_i hq;simp only[hq,if_false,Bool.false_eq_true];exact ih _ _ _ e
 |sys c k ih=>intro w es e;exact ih _ _ _ e
 |program k ih=>intro w es e;exact ih _ _ _ e
 |mark m k ih=>intro w es e;exact ih _ _ e
 |halt x=>intro w es e;simp only[Sem.bind,Sem.runT,Prod.mk.injEq,Result.halt.injEq]at e⊢;exact e
theorem az.bind {P:Program} {s:Sem α} (h:az P s) (f:α->Sem β):az P (s.bind f):=fun w es=>
 let⟨x,w1,es1,e,d⟩:=h w es
 ⟨x,w1,es1,re P f s w es e,d⟩
def dw (P:Program):Sem α->Prop
 |.pure _=>False
 |.load _ _ k=>∀v,dw P (k v)
 |.store _ _ _ k=>dw P k
 |.new _ k=>∀r,dw P (k r)
 |.shape .. |.freeze .. |.frozen .. |.choose .. |.sys .. |.halt _=>True
 |.getObj _ k=>∀o,dw P (k o)
 |.setObj _ _ k=>dw P k
 |.program k=>dw P (k P)
 |.mark _ k=>dw P k
theorem dw.bind {P:Program} {f:α->Sem β}:∀{s:Sem α},dw P s->dw P (s.bind f):=by
 intro s;induction s with
 |pure a=>intro h;exact h.elim
 |load m a k ih=>intro h v;exact ih v (h v)
 |store m a v k ih=>intro h;exact ih h
 |new o k ih=>intro h r;exact ih r (h r)
 |shape r k ih=>intro h;exact trivial
 |freeze a n k ih=>intro h;exact trivial
 |frozen a k ih=>intro h;exact trivial
 |getObj r k ih=>intro h o;exact ih o (h o)
 |setObj r o k ih=>intro h;exact ih h
 |choose q k ih=>intro h;exact trivial
 |sys c k ih=>intro h;exact trivial
 |program k ih=>intro h;exact ih P h
 |mark m k ih=>intro h;exact ih h
 |halt x=>intro h;exact trivial
theorem dw.NF {P:Program} {f:α->Sem β} (g:∀a,dw P (f a)):∀s:Sem α,dw P (s.bind f):=by
 intro s;induction s with
 |pure a=>exact g a
 |load m a k ih=>intro v;exact ih v
 |store m a v k ih=>exact ih
 |new o k ih=>intro r;exact ih r
 |shape r k ih=>exact trivial
 |freeze a n k ih=>exact trivial
 |frozen a k ih=>exact trivial
 |getObj r k ih=>intro o;exact ih o
 |setObj r o k ih=>exact ih
 |choose q k ih=>exact trivial
 |sys c k ih=>exact trivial
 |program k ih=>exact ih P
 |mark m k ih=>exact ih
 |halt x=>exact trivial
def Dd (P:Program) (p:Pi) (s:Sem α):Prop:=(p.l=true/\dw P s)\/(p.l=false/\az P s)
theorem Dd.bind {P:Program} {p:Pi} {s:Sem α} (h:Dd P p s) (f:α->Sem β):Dd P p (s.bind f):=h.imp (fun x=>⟨x.1,x.2.bind⟩) fun x=>⟨x.1,x.2.bind f⟩
def qI (P:Program) (F:Array Func) (S:Nat->Bool) (K:Kz) (N:Nat) (Q:Pi->α->β->Prop):Sem α->Sem β->Pi->Prop
 |.pure a,s',p=>match s' with|.pure b=>Q p a b|_=>False
 |.load m a k,s',p=>match s' with
  |.load m' a' k'=>m=.plain/\m'=.plain/\hU p a a'/\∀v v',VR S p v v'->qI P F S K N Q (k v) (k' v') p
  |_=>False
 |.store m a v k,s',p=>match s' with
  |.store m' a' v' k'=>m=.plain/\m'=.plain/\hU p a a'/\VR S p v v'/\qI P F S K N Q k k' p
  |_=>False
 |.new o k,s',p=>match s' with
  |.new o' k'=>OR S K p o o'/\(p.l=true->iu o o')/\∀r r' q,Le p q->nr P q->q r r'->N<=r->(∀k,¬q.x r k)->qI P F S K N Q (k r) (k' r') q
  |_=>False
 |.shape r k,s',p=>Dd P p (.shape r k)\/∃r' k',s'=.shape r' k'/\p r r'/\∀x,qI P F S K N Q (k x) (k' x) p
 |.freeze a n k,s',p=>p.l=true\/∃a' k',s'=.freeze a' n k'/\hU p a a'/\N<=a.block/\qI P F S K N Q k k' p
 |.frozen a k,_,p=>Dd P p (.frozen a k)
 |.getObj r k,s',p=>match s' with
  |.getObj r' k'=>p r r'/\∀o o',OR S K p o o'->qI P F S K N Q (k o) (k' o') p
  |_=>False
 |.setObj r o k,s',p=>match s' with
  |.setObj r' o' k'=>p r r'/\OR S K p o o'/\(p.l=true->iu o o')/\qI P F S K N Q k k' p
  |_=>False
 |.choose q k,s',p=>p.l=true\/∃k',s'=.choose q k'/\∀n,qI P F S K N Q (k n) (k' n) p
 |.sys ..,_,p=>p.l=true
 |.program k,s',p=>Dd P p (.program k)\/∃k',s'=.program k'/\qI P F S K N Q (k P) (k' (ac P F)) p
 |.mark m k,s',p=>(p.l=true/\m≠ .noRoom)\/Dd P p (.mark m k)\/(m=.noRoom/\∃k',s'=.mark .noRoom k'/\qI P F S K N Q k k' p)
 |.halt h,s',p=>p.l=true\/dead h\/∃v v',h=.panic v/\s'=.halt (.panic v')/\VR S p v v'
def SR (P:Program) (F:Array Func) (S:Nat->Bool) (K:Kz) (N:Nat) (Q:Pi->α->β->Prop) (s:Sem α) (s':Sem β) (p:Pi):Prop:=nr P p->qI P F S K N Q s s' p
section
variable {P:Program} {F:Array Func} {S:Nat->Bool} {K:Kz} {N:Nat}
theorem qI.bind {Q:Pi->α->β->Prop} {Q':Pi->γ->δ->Prop} {f:α->Sem γ} {f':β->Sem δ}:
 ∀{s:Sem α} {s':Sem β} {p:Pi},nr P p->qI P F S K N Q s s' p->(∀q a b,Le p q->nr P q->Q q a b->qI P F S K N Q' (f a) (f' b) q)->qI P F S K N Q' (s>>=f) (s'>>=f') p:=by
 intro s;induction s with
 |pure a=>intro s' p hp h g;cases s'<;>first|exact g _ _ _ (Le.refl _) hp h|exact h.elim
 |load m a k ih=>intro s' p hp h g;cases s'<;>first|exact⟨h.1,h.2.1,h.2.2.1,fun v v' x=>ih v hp (h.2.2.2 v v' x) g⟩|exact h.elim
 |store m a v k ih=>intro s' p hp h g;cases s'<;>first|exact⟨h.1,h.2.1,h.2.2.1,h.2.2.2.1,ih hp h.2.2.2.2 g⟩|exact h.elim
 |new o k ih=>intro s' p hp h g;cases s'<;>first|exact⟨h.1,h.2.1,fun r r' q a b c d n=>ih r b (h.2.2 r r' q a b c d n) fun q' x y l=>g q' x y (a.trans l)⟩|exact h.elim
 |shape r k ih=>
  intro s' p hp h g;rcases h with h|⟨r',k',rfl,h1,h2⟩
  .exact .inl (h.bind f)
  .exact .inr ⟨r',fun x=>k' x>>=f',rfl,h1,fun x=>ih x hp (h2 x) g⟩
 |freeze a n k ih=>
  intro s' p hp h g;rcases h with h|⟨a',k',rfl,h1,h2,h3⟩
  .exact .inl h
  .exact .inr ⟨a',k'>>=f',rfl,h1,h2,ih hp h3 g⟩
 |frozen a k ih=>intro s' p hp h g;exact Dd.bind h f
 |getObj r k ih=>intro s' p hp h g;cases s'<;>first|exact⟨h.1,fun o o' a=>ih o hp (h.2 o o' a) g⟩|exact h.elim
 |setObj r o k ih=>intro s' p hp h g;cases s'<;>first|exact⟨h.1,h.2.1,h.2.2.1,ih hp h.2.2.2 g⟩|exact h.elim
 |choose q k ih=>
  intro s' p hp h g;rcases h with h|⟨k',rfl,h1⟩
  .exact .inl h
  .exact .inr ⟨fun x=>k' x>>=f',rfl,fun n=>ih n hp (h1 n) g⟩
 |sys c k ih=>intro s' p hp h g;exact h
 |program k ih=>
  intro s' p hp h g;rcases h with h|⟨k',rfl,h1⟩
  .exact .inl (h.bind f)
  .exact .inr ⟨fun x=>k' x>>=f',rfl,ih P hp h1 g⟩
 |mark m k ih=>
  intro s' p hp h g;rcases h with h|h|⟨rfl,k',rfl,h1⟩
  .exact .inl h
  .exact .inr (.inl (h.bind f))
  .exact .inr (.inr ⟨rfl,k'>>=f',rfl,ih hp h1 g⟩)
 |halt x=>
  intro s' p hp h g;rcases h with h|h|⟨v,v',h1,h2,h3⟩
  .exact .inl h
  .exact .inr (.inl h)
  .exact .inr (.inr ⟨v,v',h1,by rw[h2];rfl,h3⟩)
theorem SR.bind {Q:Pi->α->β->Prop} {Q':Pi->γ->δ->Prop} {f:α->Sem γ} {f':β->Sem δ} {s:Sem α} {s':Sem β} {p:Pi}
 (h:SR P F S K N Q s s' p) (g:∀q a b,Le p q->Q q a b->SR P F S K N Q' (f a) (f' b) q):SR P F S K N Q' (s>>=f) (s'>>=f') p:=
 fun hp=>qI.bind hp (h hp) fun q a b hq ho x=>g q a b hq x ho
end
def vz:Sem α->Bool
 |.shape .. |.frozen .. |.mark .. |.program .. |.halt ..=>true
 |_=>false
theorem SR.jJ {P:Program} {F:Array Func} {S:Nat->Bool} {K:Kz} {N:Nat} {Q:Pi->α->β->Prop} {s:Sem α} {s':Sem β} {p:Pi} (h:Dd P p s) (hh:vz s=true):SR P F S K N Q s s' p:=by
 intro _;cases s<;>first|(cases hh;done)|exact h|exact .inl h|exact .inr (.inl h)|skip
 rcases h with⟨hl,_⟩|⟨_,h⟩
 .exact .inl hl
 obtain⟨x,w1,es1,e,d⟩:=h default #[];simp only[Sem.runT,Prod.mk.injEq,Result.halt.injEq]at e;exact .inr (.inl (e.1.1▸d))
def world:Result α->World
 |.ok _ w=>w
 |.halt _ w=>w
theorem ED:∀(a:Ask α) (w:World),w.drawn<=(w.ask a).2.drawn:=by
 intro a;induction a with
 |done x=>intro w;exact Nat.le_refl _
 |ask KW range k ih=>
  intro w;simp only[World.ask];split
  .exact ih _ w
  .have:=ih ((Question.extern KW range).cut (w.tape w.drawn (Question.extern KW range))) {w with drawn:=w.drawn+1};simp only at this;omega
theorem EE (w:World) (c:Sys):w.drawn<=(w.sys c).2.drawn:=by
 unfold World.sys;have:=ED (Kernel.perform c w.os) w;split
 .exact Nat.le_refl _
 .rename_i h;rw[h]at this;exact this
theorem vA (w:World) (a:Addr) (n:Nat):(w.freeze a n).drawn=w.drawn:=by unfold World.freeze;split<;>rfl
theorem rf {P:Program} {b:Bool} {l:List Addr} (h:w.farStore P a v b=.ok (w',l)):w'.drawn=w.drawn:=by
 unfold World.farStore at h;split at h
 .rename_i at_ u _;cases hv:w.viewStore P at_ u a v b with
  |error e=>rw[hv]at h;cases h
  |ok x=>
   rw[hv]at h;simp only[Except.ok.injEq]at h;subst h;unfold World.viewStore at hv;simp only[bind,Except.bind]at hv;split at hv
   .cases hv
   .split at hv
    .cases hv
    .split at hv
     .split at hv
      .cases hv
      .split at hv
       .cases hv
       .simp only[pure,Except.pure,Except.ok.injEq,Prod.mk.injEq]at hv;rw[<-hv.1]
     .cases hv
 .cases h
theorem mD (P:Program):∀(s:Sem α) (w:World) (es:Array Event),w.drawn<=(world (s.runT P w es).1).drawn:=by
 intro s;induction s with
 |pure a=>intro w es;exact Nat.le_refl _
 |load m a k ih=>
  intro w es;simp only[Sem.runT];split
  .exact ih _ w _
  .split
   .exact ih _ w _
   .exact Nat.le_refl _
 |store m a v k ih=>
  intro w es
  have key:∀w1:World,w1.drawn=w.drawn->∀es1,w.drawn<=(world (k.runT P w1 es1).1).drawn:=fun w1 h es1=>by
   have:=ih w1 es1;omega
  cases C8:dv v with
  |false=>obtain⟨h,e,_⟩:=jf P m a v k w es C8;rw[e];exact Nat.le_refl _
  |true=>
   rw[cG P m a v k w es C8];cases w.cell? a with
   |some _=>
    simp only;split
    .exact Nat.le_refl _
    .exact key (w.setCell a v) rfl _
   |none=>
    simp only;split
    .rename_i h;exact key _ (rf h) _
    .exact Nat.le_refl _
 |new o k ih=>intro w es;exact ih _ {w with heap:=w.heap.push o} es
 |shape r k ih=>intro w es;exact ih _ w es
 |freeze a n k ih=>intro w es;have:=ih (w.freeze a n) es;rw[vA]at this;exact this
 |frozen a k ih=>intro w es;exact ih _ w es
 |getObj r k ih=>
  intro w es;simp only[Sem.runT];split
  .exact Nat.le_refl _
  .exact ih _ w _
  .exact Nat.le_refl _
 |setObj r o k ih=>
  intro w es;simp only[Sem.runT];split
  .exact Nat.le_refl _
  .exact ih {w with heap:=w.heap.setIfInBounds r o} _
  .exact Nat.le_refl _
 |choose q k ih=>
  intro w es;simp only[Sem.runT];split
  .exact ih 0 w es
  .have:=ih (q.cut (w.tape w.drawn q)) {w with drawn:=w.drawn+1} es;simp only at this;omega
 |sys c k ih=>intro w es;exact Nat.le_trans (EE w c) (ih _ _ _)
 |program k ih=>intro w es;exact ih P w es
 |mark m k ih=>intro w es;exact ih w _
 |halt h=>intro w es;exact Nat.le_refl _
def ext (p:Pi) (L C c:Nat):Pi:=⟨fun r r'=>p r r'\/∃k,k<c/\r=L+k/\r'=C+k,p.x,p.l⟩
theorem eD (p:Pi) (L C c:Nat):Le p (ext p L C c):=⟨fun _ _ h=>.inl h,fun _ _ h=>h,fun _ _ _ _ h=>h,rfl⟩
theorem Pi.ext {p q:Pi} (h:∀r r',p r r'↔q r r') (hx:p.x=q.x) (hl:p.l=q.l):p=q:=by
 obtain⟨m,x,l⟩:=p;obtain⟨m',x',l'⟩:=q;cases hx;cases hl;have:m=m':=by funext r r';exact propext (h r r')
 rw[this]
theorem bz (p:Pi) (L C:Nat):ext p L C 0=p:=Pi.ext (fun r r'=>⟨fun h=>h.elim id (fun⟨k,hk,_⟩=>absurd hk (Nat.not_lt_zero k)),.inl⟩) rfl rfl
theorem ns (p:Pi) (L C c d:Nat):ext (ext p L C c) (L+c) (C+c) d=ext p L C (c+d):=by
 refine Pi.ext (fun r r'=>?_) rfl rfl;constructor
 .rintro((h|⟨k,hk,h1,h2⟩)|⟨k,hk,h1,h2⟩)
  .exact .inl h
  .exact .inr ⟨k,by omega,h1,h2⟩
  .exact .inr ⟨c+k,by omega,by omega,by omega⟩
 .rintro(h|⟨k,hk,h1,h2⟩)
  .exact .inl (.inl h)
  .by_cases hc:k<c
   .exact .inl (.inr ⟨k,hc,h1,h2⟩)
   .exact .inr ⟨k-c,by omega,by omega,by omega⟩
def Ku (N:Nat) (p:Pi) (e:Event):Prop:=
 e=noRoomEvent\/(e.sync=false/\∃r r',p r r'/\((∃a:Addr,e.loc=.cell a/\a.block=r')\/e.loc=.obj r')/\(e.write=true->N<=r))
theorem Ku.mono {N:Nat} {p q:Pi} (h:Le p q) {e:Event} (x:Ku N p e):Ku N q e:=by
 rcases x with x|⟨h1,r,r',h2,h3,h4⟩
 .exact .inl x
 .exact .inr ⟨h1,r,r',h _ _ h2,h3,h4⟩
structure cq (P:Program) (S:Nat->Bool) (K:Kz) (N:Nat) (p:Pi) (w w':World) (c n:Nat) (w1 fR:World):Prop where
 rel:WR P S K N (ext p w.heap.size w'.heap.size c) w1 fR
 size:w1.heap.size=w.heap.size+c
 kG:fR.heap.size=w'.heap.size+c
 drawn:w1.drawn=w.drawn+n
 kH:fR.drawn=w'.drawn+n
 tape:w1.tape=w.tape
 C9:fR.tape=w'.tape
 Yj:fR.os=w'.os
 O7:fR.output=w'.output
 others:∀r',r'<w'.heap.size->(∀r,p r r'->r<N)->fR.heap[r']?=w'.heap[r']?
section
variable {P:Program} {F:Array Func} {S:Nat->Bool} {K:Kz} {N:Nat}
theorem cq.refl {p:Pi} (h:WR P S K N p w w'):cq P S K N p w w' 0 0 w w':=
 ⟨by rw[bz];exact h,rfl,rfl,rfl,rfl,rfl,rfl,rfl,rfl,fun _ _ _=>rfl⟩
theorem WR.lt {p:Pi} (h:WR P S K N p w w') (x:p r r'):r<w.heap.size/\r'<w'.heap.size:=by
 obtain⟨o,o',h1,h2,_⟩:=h.blk r r' x;exact⟨(Array.getElem?_eq_some_iff.1 h1).1,(Array.getElem?_eq_some_iff.1 h2).1⟩
theorem cq.trans {p:Pi} {w2 KX:World} {c2 n2:Nat} (h:cq P S K N p w w' c n w1 fR)
 (k:cq P S K N (ext p w.heap.size w'.heap.size c) w1 fR c2 n2 w2 KX):cq P S K N p w w' (c+c2) (n+n2) w2 KX:=by
 have hr:=k.rel;rw[h.size,h.kG,ns]at hr;refine⟨hr,by rw[k.size,h.size];omega,by rw[k.kG,h.kG];omega,by rw[k.drawn,h.drawn];omega,by rw[k.kH,h.kH];omega,k.tape.trans h.tape,k.C9.trans h.C9,k.Yj.trans h.Yj,k.O7.trans h.O7,fun r' nt ho=>?_⟩;rw[k.others r' (by rw[h.kG];omega) (fun r x=>?_),h.others r' nt ho];rcases x with x|⟨j,_,_,h2⟩
 .exact ho r x
 .omega
theorem WR.cell {p:Pi} (h:WR P S K N p w w') (ha:hU p a a') (hv:w.cell? a=some v):∃v',w'.cell? a'=some v'/\VR S p v v':=by
 obtain⟨o,o',h1,h2,h3⟩:=h.blk _ _ ha.1;unfold World.cell? at hv⊢;rw[h1]at hv;rw[h2]
 have key:∀(c c':Array Value),AR S p c c'->(if a.spot.isSome=true then none else c[a.off]?)=some v->∃v',(if a'.spot.isSome=true then none else c'[a'.off]?)=some v'/\VR S p v v':=by
  intro c c' hc hx;rw[<-ha.2.2,<-ha.2.1];split at hx
  .cases hx
  .rename_i hs;simp only[hs];exact hc.get hx
 rcases h3 with⟨_,c,c',e,fz,rfl,rfl,hc⟩|⟨_,hc⟩
 .exact key c c' hc hv
 .cases hc with
  |cells e fz hw hc=>exact key _ _ hc hv
  |cg hl=>rw[h.str]at hl;cases hl
  |_=>cases hv
theorem WR.Tk {p:Pi} (h:WR P S K N p w w') (ha:hU p a a') (KW:String):∃x,w.noCell a KW=x/\dead x/\(∀b,w.farLoad P a b=.error (w.noCell a "load: no such cell"))/\(∀v b,w.farStore P a v b=.error (w.noCell a "store: no such cell")):=by
 obtain⟨o,o',h1,h2,h3⟩:=h.blk _ _ ha.1
 have hk:(∀c e,o≠ .pending c e)/\(∀b t,o≠ .view b t):=by
  rcases h3 with⟨_,c,c',e,fz,rfl,rfl,hc⟩|⟨_,hc⟩
  .exact⟨fun _ _ h=>(by cases h),fun _ _ h=>(by cases h)⟩
  .cases hc<;>exact⟨fun _ _ h=>(by cases h),fun _ _ h=>(by cases h)⟩
 refine⟨_,rfl,?_,fun b=>?_,fun v b=>?_⟩
 .unfold World.noCell;rw[h1];cases o<;>first|trivial|exact absurd rfl (hk.1 _ _)|exact absurd rfl (hk.2 _ _)
 .unfold World.farLoad;rw[h1];cases o<;>first|rfl|exact absurd rfl (hk.2 _ _)
 .unfold World.farStore;rw[h1];cases o<;>first|rfl|exact absurd rfl (hk.2 _ _)
theorem WR.setCell {p:Pi} (h:WR P S K N p w w') (ha:hU p a a') (hv:VR S p v v') (hN:N<=a.block):WR P S K N p (w.setCell a v) (w'.setCell a' v'):=by
 refine⟨h.inj,fun r r' hr=>?_,by simpa [World.setCell]using h.low,h.fix,by simpa [World.setCell]using h.fC,by simpa [World.setCell]using h.jq,h.str,h.tw⟩;obtain⟨o,o',h1,h2,h3⟩:=h.blk r r' hr;have xU:=h.inj r r' a.block a'.block hr ha.1;by_cases e:r=a.block
 .have e':=xU.1 e;rcases h3 with⟨ar,_⟩|⟨xV,hc⟩
  .omega
  .simp only[World.setCell,Array.getElem?_modify,e,e',if_true];rw[e]at h1;rw[e']at h2;rw[h1,h2];refine⟨_,_,rfl,rfl,.inr ⟨hN,?_⟩⟩;cases hc with
   |cg hl=>rw[h.str]at hl;cases hl
   |cells el fz hw hc=>
    simp only[ha.2.2,ha.2.1];split
    .exact .cells el fz hw hc
    .exact .cells el fz hw (hc.set _ hv)
   |map k a b=>exact .map k a b
   |loop a b c d e f g h' i j k l m=>exact .loop a b c d e f g h' i j k l m
   |number l g=>exact .number l g
   |dJ=>exact .dJ
   |dK=>exact .dK
 .have e':r'≠a'.block:=fun x=>e (xU.2 x);simp only[World.setCell,Array.getElem?_modify,Ne.symm e,Ne.symm e',if_false];exact⟨o,o',h1,h2,h3⟩
theorem WR.setObj {p:Pi} (h:WR P S K N p w w') {r0 WN:Nat} (ha:p r0 WN) (hx:OR S K p x x') (hN:N<=r0):WR P S K N p {w with heap:=w.heap.setIfInBounds r0 x} {w' with heap:=w'.heap.setIfInBounds WN x'}:=by
 refine⟨h.inj,fun r r' hr=>?_,by simpa using h.low,h.fix,by simpa using h.fC,by simpa using h.jq,h.str,h.tw⟩;obtain⟨o,o',h1,h2,h3⟩:=h.blk r r' hr;have xU:=h.inj r r' r0 WN hr ha;have hl:=h.lt ha;by_cases e:r=r0
 .have e':=xU.1 e;subst e;subst e';simp only[Array.getElem?_setIfInBounds,if_true,hl.1,hl.2];exact⟨_,_,rfl,rfl,.inr ⟨hN,hx⟩⟩
 .have e':r'≠WN:=fun x=>e (xU.2 x);simp only[Array.getElem?_setIfInBounds,Ne.symm e,Ne.symm e',if_false];exact⟨o,o',h1,h2,h3⟩
theorem WR.push {p:Pi} (h:WR P S K N p w w') (hx:OR S K p x x'):WR P S K N (ext p w.heap.size w'.heap.size 1) {w with heap:=w.heap.push x} {w' with heap:=w'.heap.push x'}:=by
 have hle:=eD p w.heap.size w'.heap.size 1;refine⟨fun r r' s s' hr hs=>?_,fun r r' hr=>?_,by simp;have:=h.low;omega,fun r r' hr=>?_,by simp;have:=h.fC;omega,by simp;have:=h.jq;omega,h.str,h.tw⟩
 .rcases hr with hr|⟨k,hk,h1,h2⟩<;>rcases hs with hs|⟨j,hj,h3,h4⟩
  .exact h.inj r r' s s' hr hs
  .have:=h.lt hr;omega
  .have:=h.lt hs;omega
  .omega
 .rcases hr with hr|⟨k,hk,h1,h2⟩
  .obtain⟨o,o',h1,h2,h3⟩:=h.blk r r' hr;have hl:=h.lt hr;refine⟨o,o',by simp only[Array.getElem?_push,Nat.ne_of_lt hl.1,if_false];exact h1,by simp only[Array.getElem?_push,Nat.ne_of_lt hl.2,if_false];exact h2,?_⟩;exact h3.imp (fun⟨a,b⟩=>⟨a,b.mono hle⟩) (fun⟨a,b⟩=>⟨a,b.mono hle⟩)
  .have rh:k=0:=by omega
   subst rh;simp only[Nat.add_zero]at h1 h2;subst h1;subst h2;exact⟨x,x',by simp,by simp,.inr ⟨h.low,hx.mono hle⟩⟩
 .rcases hr with hr|⟨k,hk,h1,h2⟩
  .exact h.fix r r' hr
  .have:=h.fC;have:=h.jq;omega
theorem WR.ok {p:Pi} (h:WR P S K N p w w'):nr P p:=⟨fun r r' s s' a b _=>h.inj r r' s s' a b,h.fix,fun r r' s' a b=>(h.inj r r' r s' a b).1 rfl,fun _=>h.tw⟩
theorem WR.freeze {p:Pi} (h:WR P S K N p w w') (ha:hU p a a') (n:Nat) (hN:N<=a.block):WR P S K N p (w.freeze a n) (w'.freeze a' n):=by
 unfold World.freeze;split
 .exact h
 .refine⟨h.inj,fun r r' hr=>?_,by simpa using h.low,h.fix,by simpa using h.fC,by simpa using h.jq,h.str,h.tw⟩;obtain⟨o,o',h1,h2,h3⟩:=h.blk r r' hr;have xU:=h.inj r r' a.block a'.block hr ha.1;by_cases e:r=a.block
  .have e':=xU.1 e;rcases h3 with⟨ar,_⟩|⟨xV,hc⟩
   .omega
   .simp only[Array.getElem?_modify,e,e',if_true];rw[e]at h1;rw[e']at h2;rw[h1,h2];refine⟨_,_,rfl,rfl,.inr ⟨hN,?_⟩⟩;cases hc with
    |cg hl=>rw[h.str]at hl;cases hl
    |cells el fz hw hc=>
     simp only[ha.2.1];exact .cells el _ (fun x=>by rw[h.str]at x;cases x) hc
    |map k a b=>exact .map k a b
    |loop a b c d e f g h' i j k l m=>exact .loop a b c d e f g h' i j k l m
    |number l g=>exact .number l g
    |dJ=>exact .dJ
    |dK=>exact .dK
  .have e':r'≠a'.block:=fun x=>e (xU.2 x);simp only[Array.getElem?_modify,Ne.symm e,Ne.symm e',if_false];exact⟨o,o',h1,h2,h3⟩
theorem nu (es:Array α) (e:α):es.push e=es++#[e]:=by simp
def Out (P:Program) (F:Array Func) (S:Nat->Bool) (K:Kz) (N:Nat) (Q:Pi->α->β->Prop) (s:Sem α) (s':Sem β) (p:Pi) (w w':World) (es cS:Array Event):Prop:=
 (∃h w1 es1,s.runT P w es=(.halt h w1,es1)/\dead h)\/
 ∃c n w1 fR es1 fs,cq P S K N p w w' c n w1 fR/\(∀e∈fs,Ku N (ext p w.heap.size w'.heap.size c) e)/\
  ((∃a b,s.runT P w es=(.ok a w1,es1)/\s'.runT (ac P F) w' cS=(.ok b fR,cS++fs)/\Q (ext p w.heap.size w'.heap.size c) a b)\/
   (∃v v',s.runT P w es=(.halt (.panic v) w1,es1)/\s'.runT (ac P F) w' cS=(.halt (.panic v') fR,cS++fs)/\VR S (ext p w.heap.size w'.heap.size c) v v'))
theorem Dd.out {Q:Pi->α->β->Prop} {s:Sem α} {s':Sem β} {p:Pi} (h:Dd P p s) (hw:WR P S K N p w w'):Out P F S K N Q s s' p w w' es cS:=by
 rcases h with⟨h,_⟩|⟨_,h⟩
 .rw[hw.str]at h;cases h
 .obtain⟨x,w1,es1,e,hd⟩:=h w es;exact .inl ⟨x,w1,es1,e,hd⟩
theorem Out.head {Q:Pi->α->β->Prop} {s t:Sem α} {s' t':Sem β} {p:Pi} {gs:Array Event}
 (e:s.runT P w es=t.runT P w1 es1) (e':s'.runT (ac P F) w' cS=t'.runT (ac P F) fR (cS++gs)) (hm:cq P S K N p w w' c n w1 fR)
 (hg:∀x∈gs,Ku N (ext p w.heap.size w'.heap.size c) x)
 (h:Out P F S K N Q t t' (ext p w.heap.size w'.heap.size c) w1 fR es1 (cS++gs)):Out P F S K N Q s s' p w w' es cS:=by
 unfold Out at h⊢;rw[e,e'];rcases h with h|⟨c2,n2,w2,KX,Yk,fs,k1,k2,k3⟩
 .exact .inl h
 .rw[hm.size,hm.kG,ns]at k2 k3;refine .inr ⟨c+c2,n+n2,w2,KX,Yk,gs++fs,hm.trans k1,fun x hx=>?_,?_⟩
  .rcases Array.mem_append.1 hx with hx|hx
   .refine(hg x hx).mono ?_;rw[<-ns];exact eD _ _ _ _
   .exact k2 x hx
  .rw[<-Array.append_assoc];exact k3
theorem qI.sound {Q:Pi->α->β->Prop}:∀(s:Sem α) {s':Sem β} {p:Pi},qI P F S K N Q s s' p->∀(w w':World) (es cS:Array Event) (m:Nat),WR P S K N p w w'->
 (∀j,j<m->∀q,w.tape (w.drawn+j) q=w'.tape (w'.drawn+j) q)->(world (s'.runT (ac P F) w' cS).1).drawn<=w'.drawn+m->Out P F S K N Q s s' p w w' es cS:=by
 intro s;induction s with
 |pure a=>
  intro s' p h w w' es cS m hw hm hd;cases s'<;>first|exact h.elim|skip
  refine .inr ⟨0,0,w,w',es,#[],cq.refl hw,by simp,.inl ⟨_,_,rfl,by simp only[Sem.runT,Array.append_empty];rfl,by rw[bz];exact h⟩⟩
 |load md a k ih=>
  intro s' p h w w' es cS m hw hm hd;cases s'<;>first|exact h.elim|skip
  rename_i md' a' k';obtain⟨rfl,rfl,ha,hk⟩:=h;cases hv:w.cell? a with
  |none=>
   obtain⟨x,hx,NG,hf,_⟩:=hw.Tk (P:=P) ha "load: no such cell";exact .inl ⟨_,w,es,by simp only[Sem.runT,hv,hf],hx▸NG⟩
  |some v=>
   obtain⟨v',np,hr⟩:=hw.cell ha hv;have e':(Sem.load .plain a' k').runT (ac P F) w' cS=(k' v').runT (ac P F) w' (cS++#[⟨.cell a',false,false⟩]):=by simp only[Sem.runT,np,nu];rfl
   have e:(Sem.load .plain a k).runT P w es=(k v).runT P w (es.push ⟨.cell a,false,false⟩):=by simp only[Sem.runT,hv];rfl
   refine Out.head e e' (cq.refl hw) ?_ (by rw[bz];exact ih v (hk v v' hr) w w' _ _ m hw hm (by rw[<-e'];exact hd));intro x hx;have:x=⟨.cell a',false,false⟩:=by simpa using hx
   subst this;exact .inr ⟨rfl,a.block,a'.block,.inl ha.1,.inl ⟨a',rfl,rfl⟩,fun y=>by cases y⟩
 |store md a v k ih=>
  intro s' p h w w' es cS m hw hm hd;cases s'<;>first|exact h.elim|skip
  rename_i md' a' v' k';obtain⟨rfl,rfl,ha,Yl,hk⟩:=h;cases C8:dv v with
  |false=>obtain⟨x,hx,NG⟩:=jf P .plain a v k w es C8;exact .inl ⟨x,w,es,hx,NG⟩
  |true=>
   have O8:dv v'=true:=by rw[<-Yl.dv];exact C8
   have e:=cG P .plain a v k w es C8;cases hv:w.cell? a with
   |none=>
    obtain⟨x,hx,NG,_,hf⟩:=hw.Tk (P:=P) ha "store: no such cell";rw[hv]at e;simp only[hf]at e;exact .inl ⟨_,w,es,e,hx▸NG⟩
   |some u=>
    rw[hv]at e;simp only at e;by_cases hz:w.frozen? a=true
    .simp only[hz,if_true]at e;exact .inl ⟨_,w,es,e,trivial⟩
    .simp only[hz,Bool.false_eq_true,if_false]at e;obtain⟨u',np,_⟩:=hw.cell ha hv;obtain⟨o,o',h1,h2,h3⟩:=hw.blk _ _ ha.1
     have bO:N<=a.block/\w'.frozen? a'=false:=by
      rcases h3 with⟨_,c,c',el,fz,rfl,rfl,hc⟩|⟨xV,hc⟩
      .exfalso;apply hz;unfold World.frozen?;unfold World.cell? at hv;rw[h1]at hv⊢;simp only at hv⊢;split at hv
       .cases hv
       .have:=(Array.getElem?_eq_some_iff.1 hv).1;simp[this]
      .refine⟨xV,?_⟩;unfold World.frozen? at hz⊢;rw[h1]at hz;rw[h2];cases hc with
       |cg hl=>rw[hw.str]at hl;cases hl
       |cells=>simp only[ha.2.1]at hz;simpa using hz
       |_=>rfl
     have e':=cG (ac P F) .plain a' v' k' w' cS O8;rw[np]at e';simp only[bO.2,Bool.false_eq_true,if_false]at e';have e2:(Sem.store .plain a' v' k').runT (ac P F) w' cS=k'.runT (ac P F) (w'.setCell a' v') (cS++#[⟨.cell a',true,false⟩]):=by rw[e',nu];rfl
     have Da:cq P S K N p w w' 0 0 (w.setCell a v) (w'.setCell a' v'):=
      ⟨by rw[bz];exact hw.setCell ha Yl bO.1,by simp[World.setCell],by simp[World.setCell],rfl,rfl,rfl,rfl,rfl,rfl,fun r' nt ho=>by
        have:a'.block≠r':=fun x=>by have:=ho a.block (x▸ha.1);omega
        simp[World.setCell,Array.getElem?_modify,this]⟩
     refine Out.head e e2 Da ?_ (by rw[bz];exact ih hk (w.setCell a v) (w'.setCell a' v') _ _ m (hw.setCell ha Yl bO.1) hm (by rw[<-e2];exact hd));intro x hx;have:x=⟨.cell a',true,false⟩:=by simpa using hx
     subst this;exact .inr ⟨rfl,a.block,a'.block,.inl ha.1,.inl ⟨a',rfl,rfl⟩,fun _=>bO.1⟩
 |new o k ih=>
  intro s' p h w w' es cS m hw hm hd;cases s'<;>first|exact h.elim|skip
  rename_i o' k';obtain⟨ho,_,hk⟩:=h
  have Da:cq P S K N p w w' 1 0 {w with heap:=w.heap.push o} {w' with heap:=w'.heap.push o'}:=
   ⟨hw.push ho,by simp,by simp,rfl,rfl,rfl,rfl,rfl,rfl,fun r' nt _=>by simp[Array.getElem?_push,Nat.ne_of_lt nt]⟩
  refine Out.head (gs:=#[]) (t:=k w.heap.size) (t':=k' w'.heap.size) (es1:=es) rfl (by simp[-Sem.runT_eq,Sem.runT]) Da (by simp) ?_;exact ih _ (hk _ _ _ (eD p _ _ _) (hw.push ho).ok (.inr ⟨0,by omega,rfl,rfl⟩) hw.low (hw.tw _)) _ _ _ _ m (hw.push ho) hm (by simpa [-Sem.runT_eq,Sem.runT]using hd)
 |shape r k ih=>
  intro s' p h w w' es cS m hw hm hd;rcases h with h|⟨r',k',rfl,hr,hk⟩
  .exact h.out hw
  have hs:w'.shape? r'=w.shape? r:=by
   obtain⟨o,o',h1,h2,h3⟩:=hw.blk _ _ hr;unfold World.shape?;rw[h1,h2];rcases h3 with⟨_,c,c',e,fz,rfl,rfl,hc⟩|⟨_,hc⟩
   .simp[hc.1]
   .cases hc with
    |cells e fz _ hc=>simp[hc.1]
    |cg hl=>rw[hw.str]at hl;cases hl
    |_=>rfl
  refine Out.head (gs:=#[]) (t:=k (w.shape? r)) (t':=k' (w.shape? r)) (es1:=es) rfl (by simp[-Sem.runT_eq,Sem.runT,hs]) (cq.refl hw) (by simp) ?_;rw[bz];exact ih _ (hk _) _ _ _ _ m hw hm (by simpa [-Sem.runT_eq,Sem.runT,hs]using hd)
 |freeze a n k ih=>
  intro s' p h w w' es cS m hw hm hd;rcases h with h|⟨a',k',rfl,ha,hN,hk⟩
  .rw[hw.str]at h;cases h
  have jK:=hw.freeze ha n hN
  have bQ:∀(v:World) (b:Addr),(v.freeze b n).heap.size=v.heap.size/\(v.freeze b n).drawn=v.drawn/\(v.freeze b n).tape=v.tape/\(v.freeze b n).os=v.os/\(v.freeze b n).output=v.output:=fun v b=>by
   unfold World.freeze;split<;>simp
  have Da:cq P S K N p w w' 0 0 (w.freeze a n) (w'.freeze a' n):=
   ⟨by rw[bz];exact jK,(bQ w a).1,(bQ w' a').1,(bQ w a).2.1,(bQ w' a').2.1,(bQ w a).2.2.1,(bQ w' a').2.2.1,(bQ w' a').2.2.2.1,(bQ w' a').2.2.2.2,fun r' nt ho=>by
     have:a'.block≠r':=fun x=>by have:=ho a.block (x▸ha.1);omega
     unfold World.freeze;split
     .rfl
     .simp[Array.getElem?_modify,this]⟩
  refine Out.head (gs:=#[]) (t:=k) (t':=k') (es1:=es) rfl (by simp[-Sem.runT_eq,Sem.runT]) Da (by simp) ?_;rw[bz];exact ih hk _ _ _ _ m jK (fun j hj q=>by rw[(bQ w a).2.1,(bQ w a).2.2.1,(bQ w' a').2.1,(bQ w' a').2.2.1];exact hm j hj q) (by rw[(bQ w' a').2.1];simpa [-Sem.runT_eq,Sem.runT]using hd)
 |frozen a k ih=>
  intro s' p h w w' es cS m hw hm hd;exact h.out hw
 |getObj r k ih=>
  intro s' p h w w' es cS m hw hm hd;cases s'<;>first|exact h.elim|skip
  rename_i r' k';obtain⟨hr,hk⟩:=h;obtain⟨o,o',h1,h2,h3⟩:=hw.blk _ _ hr
  have mE:∀c e fz,o=.cells c e fz->Out P F S K N Q (Sem.getObj r k) (Sem.getObj r' k') p w w' es cS:=fun c e fz ho=>by
   subst ho;exact .inl ⟨.stuck "getObj: a row of cells",w,es,by simp only[Sem.runT,h1],trivial⟩
  rcases h3 with⟨_,c,c',e,fz,ho,_⟩|⟨_,qo⟩
  .exact mE _ _ _ ho
  .by_cases hl:∃c e fz,o=.cells c e fz
   .obtain⟨c,e,fz,ho⟩:=hl;exact mE _ _ _ ho
   .have GF:∀c e fz,o≠ .cells c e fz:=fun c e fz ho=>hl ⟨c,e,fz,ho⟩;have Tl:∀c e fz,o'≠ .cells c e fz:=by cases qo<;>first|exact absurd rfl (GF _ _ _)|(exact fun _ _ _ h=>(by cases h))
    have hc:o.isChan=false/\o'.isChan=false:=by cases qo<;>exact⟨rfl,rfl⟩
    have e:(Sem.getObj r k).runT P w es=(k o).runT P w (es.push ⟨.obj r,false,false⟩):=by
     simp only[Sem.runT,h1];cases o<;>first|exact absurd rfl (GF _ _ _)|(cases hc.1;done)|rfl
    have e':(Sem.getObj r' k').runT (ac P F) w' cS=(k' o').runT (ac P F) w' (cS++#[⟨.obj r',false,false⟩]):=by
     simp only[Sem.runT,h2,<-nu];cases o'<;>first|exact absurd rfl (Tl _ _ _)|(cases hc.2;done)|rfl
    refine Out.head e e' (cq.refl hw) ?_ (by rw[bz];exact ih o (hk o o' qo) w w' _ _ m hw hm (by rw[<-e'];exact hd));intro x hx;have:x=⟨.obj r',false,false⟩:=by simpa using hx
    subst this;exact .inr ⟨rfl,r,r',.inl hr,.inr rfl,fun y=>by cases y⟩
 |setObj r x k ih=>
  intro s' p h w w' es cS m hw hm hd;cases s'<;>first|exact h.elim|skip
  rename_i r' x' k';obtain⟨hr,hx,_,hk⟩:=h;obtain⟨o,o',h1,h2,h3⟩:=hw.blk _ _ hr
  have mE:∀c e fz,o=.cells c e fz->Out P F S K N Q (Sem.setObj r x k) (Sem.setObj r' x' k') p w w' es cS:=fun c e fz ho=>by
   subst ho;exact .inl ⟨.stuck "setObj: a row of cells",w,es,by simp only[Sem.runT,h1],trivial⟩
  rcases h3 with⟨_,c,c',e,fz,ho,_⟩|⟨xV,qo⟩
  .exact mE _ _ _ ho
  .by_cases hl:∃c e fz,o=.cells c e fz
   .obtain⟨c,e,fz,ho⟩:=hl;exact mE _ _ _ ho
   .have GF:∀c e fz,o≠ .cells c e fz:=fun c e fz ho=>hl ⟨c,e,fz,ho⟩;have Tl:∀c e fz,o'≠ .cells c e fz:=by cases qo<;>first|exact absurd rfl (GF _ _ _)|(exact fun _ _ _ h=>(by cases h))
    have hc:x.isChan=false/\x'.isChan=false:=by cases hx<;>exact⟨rfl,rfl⟩
    have e:(Sem.setObj r x k).runT P w es=k.runT P {w with heap:=w.heap.setIfInBounds r x} (es.push ⟨.obj r,true,x.isChan⟩):=by
     simp only[Sem.runT,h1]
    have e':(Sem.setObj r' x' k').runT (ac P F) w' cS=k'.runT (ac P F) {w' with heap:=w'.heap.setIfInBounds r' x'} (cS++#[⟨.obj r',true,false⟩]):=by
     simp only[Sem.runT,h2,hc.2,<-nu]
    have jK:=hw.setObj hr hx xV
    have Da:cq P S K N p w w' 0 0 {w with heap:=w.heap.setIfInBounds r x} {w' with heap:=w'.heap.setIfInBounds r' x'}:=
     ⟨by rw[bz];exact jK,by simp,by simp,rfl,rfl,rfl,rfl,rfl,rfl,fun s hs ho=>by
       have:r'≠s:=fun y=>by have:=ho r (y▸hr);omega
       simp[this]⟩
    refine Out.head e e' Da ?_ (by rw[bz];exact ih hk _ _ _ _ m jK hm (by rw[<-e'];exact hd));intro y hy;have:y=⟨.obj r',true,false⟩:=by simpa using hy
    subst this;exact .inr ⟨rfl,r,r',.inl hr,.inr rfl,fun _=>xV⟩
 |choose q k ih=>
  intro s' p h w w' es cS m hw hm hd;rcases h with h|⟨k',rfl,hk⟩
  .rw[hw.str]at h;cases h
  by_cases hq:q.forced=true
  .refine Out.head (gs:=#[]) (t:=k 0) (t':=k' 0) (es1:=es) (by simp[-Sem.runT_eq,Sem.runT,hq]) (by simp[-Sem.runT_eq,Sem.runT,hq]) (cq.refl hw) (by simp) ?_;rw[bz];exact ih _ (hk _) _ _ _ _ m hw hm (by simpa [-Sem.runT_eq,Sem.runT,hq]using hd)
  .simp only[Sem.runT,hq,Bool.false_eq_true,if_false]at hd;have hdr:=mD (ac P F) (k' (q.cut (w'.tape w'.drawn q))) {w' with drawn:=w'.drawn+1} cS;simp only at hdr;have EF:0<m:=by omega
   have ht:=hm 0 EF q;simp only[Nat.add_zero]at ht;have jK:WR P S K N p {w with drawn:=w.drawn+1} {w' with drawn:=w'.drawn+1}:=⟨hw.inj,hw.blk,hw.low,hw.fix,hw.fC,hw.jq,hw.str,hw.tw⟩
   have Da:cq P S K N p w w' 0 1 {w with drawn:=w.drawn+1} {w' with drawn:=w'.drawn+1}:=
    ⟨by rw[bz];exact jK,rfl,rfl,rfl,rfl,rfl,rfl,rfl,rfl,fun _ _ _=>rfl⟩
   refine Out.head (gs:=#[]) (t:=k (q.cut (w.tape w.drawn q))) (t':=k' (q.cut (w.tape w.drawn q))) (es1:=es) (by simp[-Sem.runT_eq,Sem.runT,hq]) (by simp[-Sem.runT_eq,Sem.runT,hq,ht]) Da (by simp) ?_;rw[bz];refine ih _ (hk _) _ _ _ _ (m-1) jK (fun j hj q'=>?_) (by simp only[ht,Array.append_empty];omega);have:=hm (j+1) (by omega) q';simp only;rw[show w.drawn+1+j=w.drawn+(j+1) by omega,show w'.drawn+1+j=w'.drawn+(j+1) by omega];exact this
 |sys c k ih=>intro s' p h w w' es cS m hw;have h:p.l=true:=h;rw[hw.str]at h;cases h
 |program k ih=>
  intro s' p h w w' es cS m hw hm hd;rcases h with h|⟨k',rfl,h⟩
  .exact h.out hw
  refine Out.head (gs:=#[]) (t:=k P) (t':=k' (ac P F)) (es1:=es) rfl (by simp[-Sem.runT_eq,Sem.runT]) (cq.refl hw) (by simp) ?_;rw[bz];exact ih _ h _ _ _ _ m hw hm (by simpa [-Sem.runT_eq,Sem.runT]using hd)
 |mark mk k ih=>
  intro s' p h w w' es cS m hw hm hd;rcases h with⟨h,_⟩|h|⟨rfl,k',rfl,hk⟩
  .rw[hw.str]at h;cases h
  .exact h.out hw
  refine Out.head (gs:=#[noRoomEvent]) (t:=k) (t':=k') (es1:=es.push noRoomEvent) rfl (by simp[-Sem.runT_eq,Sem.runT,noRoomEvent]) (cq.refl hw) (fun x hx=>.inl (by simpa using hx)) ?_;rw[bz];exact ih hk _ _ _ _ m hw hm (by simpa [-Sem.runT_eq,Sem.runT,noRoomEvent]using hd)
 |halt x=>
  intro s' p h w w' es cS m hw hm hd;rcases h with h|h|⟨v,v',rfl,rfl,hr⟩
  .rw[hw.str]at h;cases h
  .exact .inl ⟨x,w,es,rfl,h⟩
  .exact .inr ⟨0,0,w,w',es,#[],cq.refl hw,by simp,.inr ⟨v,v',rfl,by simp[-Sem.runT_eq,Sem.runT],by rw[bz];exact hr⟩⟩
theorem SR.sound {Q:Pi->α->β->Prop} {s:Sem α} {s':Sem β} {p:Pi} (h:SR P F S K N Q s s' p) (w w':World) (es cS:Array Event) (m:Nat) (hw:WR P S K N p w w')
 (hm:∀j,j<m->∀q,w.tape (w.drawn+j) q=w'.tape (w'.drawn+j) q) (hd:(world (s'.runT (ac P F) w' cS).1).drawn<=w'.drawn+m):Out P F S K N Q s s' p w w' es cS:=
 qI.sound s (h hw.ok) w w' es cS m hw hm hd
end
def bc (P:Program):Prop:=∀t i v,P.info? t=some i->i.zero=some v->plain 50 v=true
section
variable (P:Program) (F:Array Func)
theorem jL (t:TypeId):(ac P F).info? t=P.info? t:=rfl
theorem de (t:TypeId):(ac P F).underlying t=P.underlying t:=rfl
theorem qp (t:TypeId):(ac P F).underlyingId t=P.underlyingId t:=rfl
theorem jr:(ac P F).depth=P.depth:=rfl
theorem dR (t:TypeId):(ac P F).cellsOf t=P.cellsOf t:=rfl
theorem dS (t:TypeId):(ac P F).bytesOf t=P.bytesOf t:=rfl
theorem kI:∀(d:Nat) (t:TypeId),(ac P F).eqGuardType d t=P.eqGuardType d t
 |0,_=>rfl
 |d+1,t=>by
  have ih:=kI d;simp only[Program.eqGuardType,ih];rfl
theorem xW:∀(d:Nat) (t u:TypeId),(ac P F).alikeButTags d t u=P.alikeButTags d t u
 |0,_,_=>rfl
 |d+1,t,u=>by
  have ih:=xW d;simp only[Program.alikeButTags,ih]
theorem js (t:TypeId):(ac P F).stoodInHeld t=P.stoodInHeld t:=by
 simp only[Program.stoodInHeld,Program.stoodInAs];have h:∀u v,(ac P F).alikeButTags (ac P F).depth u v=P.alikeButTags P.depth u v:=fun u v=>xW P F _ u v;simp only[h,qp];rfl
theorem df:∀(d:Nat) (t:TypeId) (o:Nat),byteOfCell (ac P F) d t o=byteOfCell P d t o
 |0,_,_=>rfl
 |d+1,t,o=>by
  have ih:=df d;simp only[byteOfCell,ih,dR,dS];rfl
theorem mg:∀(d:Nat) (t:TypeId) (o:Nat),cellOfByte (ac P F) d t o=cellOfByte P d t o
 |0,_,_=>rfl
 |d+1,t,o=>by
  have ih:=mg d;simp only[cellOfByte,ih,dR,dS];rfl
theorem dU (d:Nat) (t:TypeId) (c o:Nat) (b:Int):cellAtBytes (ac P F) d t c o b=cellAtBytes P d t c o b:=by
 simp only[cellAtBytes,df,mg,dR,dS];rfl
end
section
variable {P:Program} {F:Array Func} {S:Nat->Bool} {K:Kz} {N:Nat} {p:Pi}
abbrev QV (S:Nat->Bool):Pi->Value->Value->Prop:=fun q v v'=>VR S q v v'
abbrev QA (S:Nat->Bool):Pi->Array Value->Array Value->Prop:=fun q v v'=>AR S q v v'
abbrev QE (α:Type):Pi->α->α->Prop:=fun _ a b=>a=b
abbrev QN (N:Nat):Pi->Addr->Addr->Prop:=fun q a b=>hU q a b/\N<=a.block/\∀k,¬q.x a.block k
abbrev QD:Pi->Addr->Addr->Prop:=fun q a b=>hU q a b
theorem SR.pure {Q:Pi->α->β->Prop} {a:α} {b:β} (h:Q p a b):SR P F S K N Q (Pure.pure a) (Pure.pure b) p:=fun _=>h
theorem SR.stuck {Q:Pi->α->β->Prop} {x:String} {s':Sem β}:SR P F S K N Q (Go.stuck x:Sem α) s' p:=fun _=>.inr (.inl trivial)
theorem SR.unsupported {Q:Pi->α->β->Prop} {u:Unsupported} {s':Sem β} (h:∀g,u≠ .initOrder g:=by intro g;exact fun h=>by cases h):SR P F S K N Q (Go.unsupported u:Sem α) s' p:=fun _=>.inr (.inl (by cases u<;>first|trivial|exact absurd rfl (h _)))
theorem SR.goPanic {Q:Pi->α->β->Prop} (h:VR S p v v'):SR P F S K N Q (Go.goPanic v:Sem α) (Go.goPanic v':Sem β) p:=fun _=>.inr (.inr ⟨v,v',rfl,rfl,h⟩)
theorem SR.choose (q:Question):SR P F S K N (QE Nat) (Go.choose q) (Go.choose q) p:=fun _=>.inr ⟨_,rfl,fun _=>rfl⟩
theorem SR.load (h:hU p a a'):SR P F S K N (QV S) (Go.load a) (Go.load a') p:=fun _=>⟨rfl,rfl,h,fun _ _ g=>g⟩
theorem SR.store (h:hU p a a') (g:VR S p v v'):SR P F S K N (QE Unit) (Go.store a v) (Go.store a' v') p:=fun _=>⟨rfl,rfl,h,g,rfl⟩
theorem SR.newObj (h:OR S K p o o') (hs:p.l=true->iu o o'):SR P F S K N (fun q r r'=>q r r'/\N<=r/\∀k,¬q.x r k) (Go.newObj o) (Go.newObj o') p:=fun _=>⟨h,hs,fun _ _ _ _ _ g l n=>⟨g,l,n⟩⟩
theorem SR.shape (h:p r r'):SR P F S K N (QE (Option (TypeId×Nat))) (Go.shape r) (Go.shape r') p:=fun _=>.inr ⟨_,_,rfl,h,fun _=>rfl⟩
theorem SR.getObj (h:p r r'):SR P F S K N (fun q o o'=>OR S K q o o') (Go.getObj r) (Go.getObj r') p:=fun _=>⟨h,fun _ _ g=>g⟩
theorem SR.setObj (h:p r r') (g:OR S K p o o') (hs:p.l=true->iu o o'):SR P F S K N (QE Unit) (Go.setObj r o) (Go.setObj r' o') p:=fun _=>⟨h,g,hs,rfl⟩
theorem SR.askRoom (n:Nat):SR P F S K N (QE Unit) (Go.askRoom n) (Go.askRoom n) p:=by
 unfold Go.askRoom;split
 .exact fun _=>.inr (.inr ⟨rfl,_,rfl,rfl⟩)
 .exact fun _=>rfl
theorem SR.ite {Q:Pi->α->β->Prop} {c:Prop} [Decidable c] {s t:Sem α} {s' t':Sem β} (h:c->SR P F S K N Q s s' p) (g:¬c->SR P F S K N Q t t' p):SR P F S K N Q (if c then s else t) (if c then s' else t') p:=by
 by_cases hc:c
 .simp only[hc,if_true];exact h hc
 .simp only[hc,if_false];exact g hc
theorem SR.av {Q':Pi->γ->δ->Prop} {f:α->Sem γ} {f':α->Sem δ} {s s':Sem α} (h:SR P F S K N (QE α) s s' p) (g:∀q a,Le p q->SR P F S K N Q' (f a) (f' a) q):SR P F S K N Q' (s>>=f) (s'>>=f') p:=
 h.bind fun q a b hq e=>by subst e;exact g q a hq
theorem SR.nv {Q':Pi->γ->δ->Prop} {f:Program->Sem γ} {f':Program->Sem δ} (g:SR P F S K N Q' (f P) (f' (ac P F)) p):SR P F S K N Q' (Go.program>>=f) (Go.program>>=f') p:=fun hp=>.inr ⟨_,rfl,g hp⟩
theorem SR.ny {Q':Pi->γ->δ->Prop} {f:TypeInfo->Sem γ} {f':TypeInfo->Sem δ} (g:∀i,P.info? t=some i->SR P F S K N Q' (f i) (f' i) p):SR P F S K N Q' (Go.typeInfo t>>=f) (Go.typeInfo t>>=f') p:=by
 unfold Go.typeInfo;show SR P F S K N Q' ((Go.program>>=_)>>=f) ((Go.program>>=_)>>=f') p;refine fun hp=>.inr ⟨_,rfl,?_⟩;revert hp;show SR P F S K N Q' (Sem.bind (match P.info? t with|some i=>Pure.pure i|none=>Go.stuck "no such type") f) (Sem.bind (match P.info? t with|some i=>Pure.pure i|none=>Go.stuck "no such type") f') p;cases h:P.info? t with
 |none=>exact SR.stuck (x:= "no such type")
 |some i=>exact g i h
theorem SR.ci {Q':Pi->γ->δ->Prop} {f:TypeDesc->Sem γ} {f':TypeDesc->Sem δ} (g:∀i,P.underlying t=some i->SR P F S K N Q' (f i) (f' i) p):SR P F S K N Q' (Go.underlying t>>=f) (Go.underlying t>>=f') p:=by
 unfold Go.underlying;refine fun hp=>.inr ⟨_,rfl,?_⟩;revert hp;show SR P F S K N Q' (Sem.bind (match P.underlying t with|some i=>Pure.pure i|none=>Go.stuck "no such type") f) (Sem.bind (match P.underlying t with|some i=>Pure.pure i|none=>Go.stuck "no such type") f') p;cases h:P.underlying t with
 |none=>exact SR.stuck (x:= "no such type")
 |some i=>exact g i h
theorem SR.zeroValue (hz:bc P) (t:TypeId):SR P F S K N (fun q a b=>a=b/\VR S q a b) (Go.zeroValue t) (Go.zeroValue t) p:=by
 unfold Go.zeroValue;refine SR.ny fun i hi=>?_;cases h:i.zero with
 |none=>exact SR.unsupported
 |some v=>exact fun _=>⟨rfl,VR.plain 50 v (hz t i v hi h)⟩
theorem SR.sizeOf (t:TypeId):SR P F S K N (QE Nat) (Go.sizeOf t) (Go.sizeOf t) p:=by
 unfold Go.sizeOf;exact SR.ny fun i _=>SR.pure rfl
theorem SR.isAgg (t:TypeId):SR P F S K N (QE Bool) (Go.isAgg t) (Go.isAgg t) p:=by
 unfold Go.isAgg;refine SR.ci fun i _=>?_;cases i<;>exact SR.pure rfl
theorem SR.loadCellsFrom:∀(n:Nat) {p:Pi} {a a':Addr} (i:Nat) {acc AJ:Array Value},hU p a a'->AR S p acc AJ->SR P F S K N (QA S) (Go.loadCellsFrom a i n acc) (Go.loadCellsFrom a' i n AJ) p
 |0,_,_,_,_,_,_,_,hc=>SR.pure hc
 |n+1,_,_,_,i,_,_,ha,hc=>by
  simp only[Go.loadCellsFrom];refine(SR.load (ha.add i)).bind fun q v v' hq hv=>?_;exact SR.loadCellsFrom n (i+1) (ha.mono hq) ((hc.mono hq).push hv)
theorem SR.loadCells (h:hU p a a') (n:Nat):SR P F S K N (QA S) (Go.loadCells a n) (Go.loadCells a' n) p:=SR.loadCellsFrom n 0 h AR.empty
theorem SR.storeCells:∀(vs NH:List Value) {p:Pi} {a a':Addr} (i:Nat),hU p a a'->vs.length=NH.length->(∀(j:Nat) v v',vs[j]?=some v->NH[j]?=some v'->VR S p v v')->SR P F S K N (QE Unit) (Go.storeCells a vs i) (Go.storeCells a' NH i) p
 | [],[],_,_,_,_,_,_,_=>SR.pure rfl
 | [],_::_,_,_,_,_,_,hl,_=>by cases hl
 |_::_,[],_,_,_,_,_,hl,_=>by cases hl
 |v::vs,v'::NH,_,_,_,i,ha,hl,hv=>by
  simp only[Go.storeCells];refine(SR.store (ha.add i) (hv 0 v v' rfl rfl)).av fun q _ hq=>?_;exact SR.storeCells vs NH (i+1) (ha.mono hq) (by simpa using hl) fun j x x' h1 h2=>(hv (j+1) x x' h1 h2).mono hq
theorem SR.fp (h:hU p a a') (hx:AR S p xs cD):SR P F S K N (QE Unit) (Go.storeCells a xs.toList) (Go.storeCells a' cD.toList) p:=
 SR.storeCells _ _ 0 h (by simpa using hx.1) fun j v v' h1 h2=>hx.2 j v v' (by simpa using h1) (by simpa using h2)
theorem SR.loadVar (t:TypeId) (h:hU p a a'):SR P F S K N (QV S) (Go.loadVar t a) (Go.loadVar t a') p:=by
 unfold Go.loadVar;refine(SR.isAgg t).av fun q b hq=>?_;have h:=h.mono hq;cases b with
 |true=>
  simp only[if_true];refine(SR.sizeOf t).av fun q n hq=>?_;exact(SR.loadCells (h.mono hq) n).bind fun q x x' hq hx=>SR.pure hx.agg
 |false=>exact SR.load h
theorem SR.storeVar (t:TypeId) (h:hU p a a') (hv:VR S p v v'):SR P F S K N (QE Unit) (Go.storeVar t a v) (Go.storeVar t a' v') p:=by
 unfold Go.storeVar;refine(SR.sizeOf t).av fun q n hq=>?_;have hc:=(hv.mono hq).cells;rw[<-hc.1];split
 .exact SR.stuck
 .exact SR.fp (h.mono hq) hc
theorem SR.newRow (e:TypeId) (h:AR S p xs cD):SR P F S K N (QN N) (Go.newRow e xs) (Go.newRow e cD) p:=by
 unfold Go.newRow;exact(SR.newObj (.cells e (0,0) (fun _=>Nat.le_refl 0) h) fun _ _ _ _ _ _ _ a b=>by cases a;cases b;exact h.1.symm).bind fun q r r' _ hr=>SR.pure ⟨⟨hr.1,rfl,rfl⟩,hr.2⟩
theorem SR.newVar (e:TypeId) (h:VR S p v v'):SR P F S K N (QN N) (Go.newVar e v) (Go.newVar e v') p:=SR.newRow e h.cells
theorem SR.part (t:TypeId) (h:AR S p xs cD) (off:Nat):SR P F S K N (QV S) (Go.part t xs off) (Go.part t cD off) p:=by
 unfold Go.part;refine(SR.isAgg t).av fun q b hq=>?_;have h:=h.mono hq;cases b with
 |true=>
  simp only[if_true];exact(SR.sizeOf t).av fun q n hq=>SR.pure ((h.mono hq).extract _ _).agg
 |false=>
  simp only[Bool.false_eq_true,if_false];cases hx:xs[off]? with
  |none=>exact SR.stuck
  |some v=>obtain⟨v',np,hr⟩:=h.get hx;rw[np];exact SR.pure hr
theorem SR.asIntOf (h:VR S p v v'):SR P F S K N (QE (IntKind×Int)) (Go.asIntOf v) (Go.asIntOf v') p:=by
 cases h<;>first|exact SR.pure rfl|exact SR.unsupported|exact SR.stuck
theorem SR.asInt (h:VR S p v v'):SR P F S K N (QE Int) (Go.asInt v) (Go.asInt v') p:=(SR.asIntOf h).av fun _ _ _=>SR.pure rfl
theorem SR.asBool (h:VR S p v v'):SR P F S K N (QE Bool) (Go.asBool v) (Go.asBool v') p:=by
 cases h<;>first|exact SR.pure rfl|exact SR.stuck
theorem SR.asAgg (h:VR S p v v'):SR P F S K N (QA S) (Go.asAgg v) (Go.asAgg v') p:=by
 cases h<;>first|exact SR.stuck|(rename_i a b;exact SR.pure ⟨a,b⟩)
theorem SR.runtimePanic {Q:Pi->α->β->Prop} (e:RuntimeError) (h:∀a b c d,e≠ .typeAssertion a b c d) (h2:e≠ .panicNil) (h3:∀t,e≠ .unhashable t):SR P F S K N Q (Go.runtimePanic e:Sem α) (Go.runtimePanic e:Sem β) p:=by
 unfold Go.runtimePanic;refine SR.nv ?_;simp only[jL,de];cases e with
 |bounds x y s c=>exact SR.goPanic (VR.plain 5 _ (by simp[plain,strVal]))
 |error m=>exact SR.goPanic (VR.plain 5 _ (by simp[plain,strVal]))
 |plain m=>exact SR.goPanic (VR.plain 5 _ (by simp[plain,strVal]))
 |nilDeref=>exact SR.goPanic (VR.plain 5 _ (by simp[plain,strVal]))
 |typeAssertion a b c d=>exact absurd rfl (h a b c d)
 |panicNil=>exact absurd rfl h2
 |unhashable t=>exact absurd rfl (h3 t)
theorem SR.err {Q:Pi->α->β->Prop} (m:String):SR P F S K N Q (Go.runtimePanic (.error m):Sem α) (Go.runtimePanic (.error m):Sem β) p:=
 SR.runtimePanic _ (fun _ _ _ _ h=>by cases h) (fun h=>by cases h) (fun _ h=>by cases h)
theorem SR.G6 {Q:Pi->α->β->Prop} (m:String):SR P F S K N Q (Go.runtimePanic (.plain m):Sem α) (Go.runtimePanic (.plain m):Sem β) p:=
 SR.runtimePanic _ (fun _ _ _ _ h=>by cases h) (fun h=>by cases h) (fun _ h=>by cases h)
theorem SR.nilDeref {Q:Pi->α->β->Prop}:SR P F S K N Q (Go.runtimePanic .nilDeref:Sem α) (Go.runtimePanic .nilDeref:Sem β) p:=
 SR.runtimePanic _ (fun _ _ _ _ h=>by cases h) (fun h=>by cases h) (fun _ h=>by cases h)
theorem SR.boundsPanic {Q:Pi->α->β->Prop} (k:IntKind) (x y:Int) (c:BoundsCode):SR P F S K N Q (Go.boundsPanic k x y c:Sem α) (Go.boundsPanic k x y c:Sem β) p:=by
 have key:∀(q:Pi) (b:Bool),SR P F S K N Q (Go.runtimePanic (.bounds (IntKind.i64.wrap x) y b c):Sem α) (Go.runtimePanic (.bounds (IntKind.i64.wrap x) y b c):Sem β) q:=
  fun q b=>SR.runtimePanic _ (fun _ _ _ _ h=>by cases h) (fun h=>by cases h) (fun _ h=>by cases h)
 unfold Go.boundsPanic;dsimp only;refine SR.ite (fun _=>?_) (fun _=>?_)
 .refine SR.av (α:=Bool) ?_ fun q b hq=>key q b;exact(SR.choose _).av (Q':=QE Bool) fun q n hq=>SR.pure rfl
 .exact key p _
theorem SR.asAddr (h:VR S p v v'):SR P F S K N QD (Go.asAddr v) (Go.asAddr v') p:=by
 cases h<;>first|exact SR.stuck|exact SR.nilDeref|(rename_i g;exact SR.pure ⟨g,rfl,rfl⟩)
theorem SR.sureAddr (h:VR S p v v'):SR P F S K N QD (Instr.sureAddr v) (Instr.sureAddr v') p:=by
 cases h<;>first|exact SR.stuck|(rename_i g;exact SR.pure ⟨g,rfl,rfl⟩)
end
end Go.aq
