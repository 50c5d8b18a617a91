/- A part. Conditions: none. -/
import Derived.Calls
set_option linter.all false
namespace Go
abbrev fu:=Value
abbrev nq:=World
abbrev un:=Program
abbrev a00:=TypeId
abbrev zAA:=@Nat.le_refl
abbrev zAB:=@Option.some.injEq
abbrev zAC:=@Array.getElem?_eq_some_iff
abbrev zAD:=@Option.getD_some
abbrev zAE:=@if_pos
abbrev zAF:=@Bool.and_eq_true
abbrev zAG:=@if_neg
abbrev zAH:=@Prod.mk.injEq
abbrev zAI:=@List.getElem?_eq_getElem
abbrev zAJ:=@Nat.zero_le
abbrev zAK:=@Array.getElem?_eq_getElem
abbrev zAL:=@Bool.false_eq_true
abbrev zAM:=@Nat.le_trans
abbrev zAN:=@Nat.eq_of_beq_eq_true
abbrev zAO:=@List.getElem?_eq_some_iff
abbrev zAP:=@Nat.testBit_or
abbrev zAQ:=@List.mem_cons
abbrev zAR:=@cond_false
abbrev zAS:=@List.mem_cons_of_mem
abbrev zAT:=@List.mem_of_getElem?
abbrev zAU:=@cond_true
abbrev zAV:=@List.length_append
abbrev zAW:=@Option.some.inj
abbrev zAX:=@List.take_add_one
abbrev zAY:=@Array.getElem?_eq_none
abbrev zAZ:=@Nat.lt_of_lt_of_le
abbrev zBA:=@Array.getD_eq_getD_getElem?
abbrev zBB:=@List.getElem?_cons_zero
abbrev zBC:=@if_false
abbrev zBD:=@Nat.add_assoc
abbrev zBE:=@congrArg
abbrev zBF:=@Classical.byContradiction
abbrev zBG:=@Nat.le_of_ble_eq_true
abbrev zBH:=@Option.bind_eq_some_iff
abbrev zBI:=@List.getElem?_cons_succ
abbrev zBJ:=@Option.map_some
abbrev zBK:=@Array.getElem?_push
abbrev zBL:=@Array.getElem?_setIfInBounds
abbrev zBM:=@if_true
abbrev zBN:=@List.take_length
abbrev zBO:=@List.eq_nil_of_length_eq_zero
abbrev zBP:=@Array.all_eq_true
abbrev zBQ:=@Bool.or_eq_true
abbrev zBR:=@List.getElem?_append_left
abbrev zBS:=@Array.getElem?_modify
abbrev zBT:=@Nat.lt_succ_self
abbrev zBU:=@List.mem_singleton
abbrev zBV:=@List.length_cons
abbrev zBW:=@List.mem_cons_self
abbrev zBX:=@List.getElem_of_mem
abbrev zBY:=@List.mem_map
abbrev zBZ:=@Bool.or_true
abbrev zCA:=@List.getD_eq_getElem?_getD
abbrev zCB:=@Nat.eq_zero_or_pos
abbrev zCC:=@List.getElem?_toArray
abbrev zCD:=@List.mem_append
abbrev zCE:=@decide_eq_false
abbrev zCF:=@decide_eq_true_eq
abbrev zCG:=@List.getElem?_map
abbrev zCH:=@Nat.add_zero
abbrev zCI:=@List.append_nil
abbrev zCJ:=@Array.mem_iff_getElem
abbrev zCK:=@decide_eq_true
abbrev zCL:=@List.length_nil
abbrev zCM:=@List.all_eq_true
abbrev zCN:=@List.not_mem_nil
abbrev zCO:=@Bool.not_eq_true'
abbrev zCP:=@Array.getElem?_map
abbrev zCQ:=@List.cons.injEq
abbrev zCR:=@List.map_append
abbrev zCS:=@true_and
abbrev zCT:=@List.getElem?_eq_none
abbrev zCU:=@Nat.le_succ
abbrev zCV:=@Array.getElem?_setIfInBounds_ne
abbrev zCW:=@List.mem_filter
abbrev zCX:=@List.filter_append
abbrev zCY:=@List.length_pos_iff
abbrev zCZ:=@List.append_assoc
abbrev zDA:=@Nat.lt_or_ge
abbrev zDB:=@List.mem_range
abbrev zDC:=@Array.mk.injEq
abbrev zDD:=@Option.isSome_iff_exists
abbrev zDE:=@List.length_filter_le
abbrev zDF:=@List.getElem?_take
abbrev zDG:=@Nat.add_sub_cancel_left
abbrev zDH:=@Nat.pow_le_pow_right
abbrev zDI:=@List.getElem?_append_right
abbrev zDJ:=@List.flatMap_cons
abbrev zDK:=@Nat.not_lt_zero
abbrev zDL:=@List.foldl_cons
abbrev zDM:=@Array.getElem?_toList
abbrev zDN:=@Array.mem_of_getElem?
abbrev zDO:=@Nat.mul_le_mul_right
abbrev zDP:=@Array.getElem?_append_right
abbrev zDQ:=@List.flatMap_append
abbrev zDR:=@Nat.zero_add
abbrev zDS:=@List.map_cons
abbrev zDT:=@Option.bind_some
abbrev zDU:=@Array.empty_append
abbrev zDV:=@Array.size_setIfInBounds
abbrev zDW:=@Bool.true_or
abbrev zDX:=@Array.getElem?_replicate
abbrev zDY:=@Int.toNat_natCast
abbrev zDZ:=@Bool.false_or
abbrev zEA:=@Array.mem_append
abbrev zEB:=@List.filter_cons
abbrev zEC:=@Option.map_eq_some_iff
abbrev zED:=@Array.forIn_toList
abbrev zEE:=@Nat.pow_succ
abbrev zEF:=@Bool.eq_iff_iff
abbrev zEG:=@List.nil_append
abbrev zEH:=@List.take_append_drop
abbrev zEI:=@List.length_map
abbrev zEJ:=@Bool.not_true
abbrev zEK:=@Array.getElem?_append_left
abbrev zEL:=@Array.getElem_mem
abbrev zEM:=@Array.mapM_eq_foldlM
abbrev zEN:=@Nat.ne_of_lt
abbrev zEO:=@List.mem_flatMap
abbrev zEP:=@List.cons_append
abbrev zEQ:=@Bool.not_eq_true
abbrev zER:=@and_true
abbrev zES:=@List.length_take
abbrev zET:=@Nat.succ_ne_self
abbrev zEU:=@beq_eq_false_iff_ne
abbrev zEV:=@Nat.lt_irrefl
abbrev zEW:=@Array.append_assoc
abbrev zEX:=@Array.foldl_toList
abbrev zEY:=@Nat.or_comm
abbrev zEZ:=@of_decide_eq_true
abbrev zFA:=@Array.size_append
abbrev zFB:=@Bool.not_false
abbrev zFC:=@Nat.le_of_lt
abbrev zFD:=@Array.getElem?_append
abbrev zFE:=@Array.replicate_succ
abbrev zFF:=@Array.replicate_zero
abbrev zFG:=@List.pairwise_append
abbrev zFH:=@Nat.zero_or
abbrev zFI:=@Array.foldlM_toList
abbrev zFJ:=@Array.length_toList
abbrev zFK:=@List.append_toArray
abbrev zFL:=@List.pairwise_iff_getElem
abbrev zFM:=@List.pairwise_cons
abbrev zFN:=@Nat.add_sub_cancel
abbrev zFO:=@Array.ext_getElem?
abbrev zFP:=@List.getElem?_take_of_lt
abbrev zFQ:=@List.size_toArray
abbrev zFR:=@List.push_toArray
abbrev zFS:=@List.foldl_append
abbrev zFT:=@Nat.add_mul
abbrev zFU:=@Int.le_refl
abbrev zFV:=@List.foldlM_cons
abbrev zFW:=@Array.toList_map
abbrev zFX:=@List.mem_toArray
abbrev zFZ:=@List.flatMap_nil
abbrev zGA:=@List.mem_iff_getElem?
abbrev zGB:=@List.forIn_cons
abbrev zGC:=@Nat.mod_lt
abbrev zGD:=@Bool.or_eq_false_iff
abbrev zGE:=@List.mem_append_left
abbrev zGH:=@Bool.false_and
abbrev zGI:=@List.take_zero
end Go
namespace Go.aD
variable {i:Nat} {v v':Value} {xs ys:Array Value}
structure Pi where
 m:Nat->Nat->Prop
 x:Nat->Nat->Prop
 l:Bool
instance : CoeFun Pi (λ_ => Nat -> Nat -> Prop) := ⟨Pi.m⟩
structure Le (p q:Pi):Prop where
 m:∀r r',p r r'->q r r'
 x:∀r n,p.x r n->q.x r n
 xr:∀r r' n,p r r'->q.x r n->p.x r n
 l:q.l=p.l
instance (p q : Pi) : CoeFun (Le p q) (λ_ => ∀ r r', p r r' -> q r r') := ⟨Le.m⟩
def Le.refl (p:Pi):Le p p:=⟨λ_ _ h=>h,λ_ _ h=>h,λ_ _ _ _ h=>h,rfl⟩
def Le.trans {p q s:Pi} (h:Le p q) (k:Le q s):Le p s:=⟨λr r' x=>k.m r r' (h.m r r' x),λr n x=>k.x r n (h.x r n x),λr r' n a x=>h.xr r r' n a (k.xr r r' n (h.m r r' a) x),k.l.trans h.l⟩
def ew:Value->Bool
 |.agg _|.tuple _=>false
 |_=>true
def S7:Value->Bool
 |.agg _|.tuple _|.bool _|.int _ _|.string _|.pointer none|.slice none _ _|.map none|.chan _|.nilFunc|.nilIface|.func (.method _) _ _=>false
 |_=>true
abbrev MF:Value:=.func (.method "") #[.iface 1000000 .nilIface] #[]
def JK:Nat:=1000000
inductive VR (S:Nat->Bool) (p:Pi):Value->Value->Prop
 |bool (b:Bool):VR S p (.bool b) (.bool b)
 |int (k:IntKind) (n:Int):VR S p (.int k n) (.int k n)
 |string (s:ByteArray):VR S p (.string s) (.string s)
 |xt:VR S p (.pointer none) (.pointer none)
 |ptr {r r':Nat} (o:Nat) (sp:Option Nat) (h:p r r'):VR S p (.pointer (some ⟨r,o,sp⟩)) (.pointer (some ⟨r',o,sp⟩))
 |dH (l c:Nat):VR S p (.slice none l c) (.slice none l c)
 |slice {r r':Nat} (o:Nat) (sp:Option Nat) (l c:Nat) (h:p r r') (hX:S 999999=true->∀k,¬p.x r k):VR S p (.slice (some ⟨r,o,sp⟩) l c) (.slice (some ⟨r',o,sp⟩) l c)
 |dI {r r' k:Nat} (o l:Nat) {c:Nat} (hl:p.l=true) (h:p r r') (h0:0<c) (hx:p.x r k):VR S p (.slice (some ⟨r,o,none⟩) l c) (.slice (some ⟨r',o,none⟩) l (c+k))
 |gz {r r':Nat} (o o' c':Nat) (hl:p.l=true) (h:p r r'):VR S p (.slice (some ⟨r,o,some 0⟩) 0 0) (.slice (some ⟨r',o',none⟩) 0 c')
 |xu:VR S p (.map none) (.map none)
 |map {r r':Nat} (h:p r r'):VR S p (.map (some r)) (.map (some r'))
 |chan (c:Option Nat):VR S p (.chan c) (.chan c)
 |func {f:Nat} {xs de ys Js:Array Value} (h:S f=true) (hx:xs.size=de.size) (hy:ys.size=Js.size)
   (gx:∀(i:Nat) (v v':Value),xs[i]?=some v->de[i]?=some v'->VR S p v v') (gy:∀(i:Nat) (v v':Value),ys[i]?=some v->Js[i]?=some v'->VR S p v v'):
   VR S p (.func (.func f) xs ys) (.func (.func f) de Js)
 |yield {l l':Nat} (h:p l l'):VR S p (.func (.yield l) #[] #[]) (.func (.yield l') #[] #[])
 |nilFunc:VR S p .nilFunc .nilFunc
 |nilIface:VR S p .nilIface .nilIface
 |iface {t:TypeId} {v v':Value} (h:VR S p v v'):VR S p (.iface t v) (.iface t v')
 |agg {xs de:Array Value} (hx:xs.size=de.size) (gx:∀(i:Nat) (v v':Value),xs[i]?=some v->de[i]?=some v'->VR S p v v'):VR S p (.agg xs) (.agg de)
 |tuple {xs de:Array Value} (hx:xs.size=de.size) (gx:∀(i:Nat) (v v':Value),xs[i]?=some v->de[i]?=some v'->VR S p v v'):VR S p (.tuple xs) (.tuple de)
 |eD (hl:p.l=false) (a a':Addr):VR S p (.slice (some a) 0 0) (.slice (some a') 0 0)
 |rV {v':Value} (hl:p.l=false) (hj:S JK=true) (h:S7 v'=true):VR S p (.tuple #[]) v'
 |E6 (hl:p.l=false) (hj:S JK=true) (n:String) (xs ys:Array Value):VR S p MF (.func (.method n) xs ys)
def VR.mono {S:Nat->Bool} {p q:Pi} (h:Le p q) (x:VR S p v v'):VR S q v v':=by
 induction x with
 |bool b=>exact .bool b
 |int k n=>exact .int k n
 |string s=>exact .string s
 |xt=>exact .xt
 |ptr o sp g=>exact .ptr o sp (h _ _ g)
 |dH l c=>exact .dH l c
 |slice o sp l c g hX=>exact .slice o sp l c (h _ _ g) λhs k hk=>hX hs k (h.xr _ _ _ g hk)
 |dI o l hl g h0 hx=>exact .dI o l (h.l.trans hl) (h _ _ g) h0 (h.x _ _ hx)
 |gz o o' c' hl g=>exact .gz o o' c' (h.l.trans hl) (h _ _ g)
 |xu=>exact .xu
 |map g=>exact .map (h _ _ g)
 |chan c=>exact .chan c
 |func hS hx hy _ _ Zp ihy=>exact .func hS hx hy Zp ihy
 |yield g=>exact .yield (h _ _ g)
 |nilFunc=>exact .nilFunc
 |nilIface=>exact .nilIface
 |iface _ ih=>exact .iface ih
 |agg hx _ ih=>exact .agg hx ih
 |tuple hx _ ih=>exact .tuple hx ih
 |eD hl a a'=>exact .eD (h.l.trans hl) a a'
 |rV hl hj g=>exact .rV (h.l.trans hl) hj g
 |E6 hl hj n xs ys=>exact .E6 (h.l.trans hl) hj n xs ys
def AR (S:Nat->Bool) (p:Pi) (xs ys:Array Value):Prop:=xs.size=ys.size/\∀(i:Nat) (v v':Value),xs[i]?=some v->ys[i]?=some v'->VR S p v v'
section
variable {S:Nat->Bool} {p q:Pi}
def AR.mono (h:Le p q) (x:AR S p xs ys):AR S q xs ys:=⟨x.1,λi v v' a b=>(x.2 i v v' a b).mono h⟩
def AR.empty:AR S p #[] #[]:=⟨rfl,λi v v' h=>by simp at h⟩
def AR.agg {xs ys:Array Value} (h:AR S p xs ys):VR S p (.agg xs) (.agg ys):=.agg h.1 h.2
def AR.tuple (h:AR S p xs ys):VR S p (.tuple xs) (.tuple ys):=.tuple h.1 h.2
def AR.get (h:AR S p xs ys) (hi:xs[i]?=some v):∃v',ys[i]?=some v'/\VR S p v v':=by
 have au:i<ys.size:=by rw[<-h.1];exact(Array.getElem?_eq_some_iff.1 hi).1
 exact⟨ys[i],Array.getElem?_eq_getElem au,h.2 i v _ hi (Array.getElem?_eq_getElem au)⟩
def AR.none (h:AR S p xs ys) (hi:xs[i]?=.none):ys[i]?=.none:=by
 rw[Array.getElem?_eq_none_iff]at hi⊢;rw[<-h.1];exact hi
def AR.getD (h:AR S p xs ys) (i:Nat) {d d':Value} (hd:VR S p d d'):VR S p (xs.getD i d) (ys.getD i d'):=by
 rw[Array.getD_eq_getD_getElem?,Array.getD_eq_getD_getElem?];cases hx:xs[i]? with
 |none=>rw[h.none hx];exact hd
 |some v=>obtain⟨v',qx,hr⟩:=h.get hx;rw[qx];exact hr
def AR.push (h:AR S p xs ys) (hv:VR S p v v'):AR S p (xs.push v) (ys.push v'):=by
 refine⟨by simp[h.1],λi a b ha hb=>?_⟩;rw[Array.getElem?_push]at ha hb;rw[h.1]at ha;by_cases hi:i=ys.size
 .simp only[hi,if_true,Option.some.injEq]at ha hb;subst ha;subst hb;exact hv
 .simp only[hi,if_false]at ha hb;exact h.2 i a b ha hb
def AR.set (h:AR S p xs ys) (i:Nat) (hv:VR S p v v'):AR S p (xs.setIfInBounds i v) (ys.setIfInBounds i v'):=by
 refine⟨by simp[h.1],λj a b ha hb=>?_⟩;rw[Array.getElem?_setIfInBounds]at ha hb;rw[h.1]at ha;by_cases sL:i=j
 .subst sL;simp only[if_true]at ha hb;split at ha
  .rename_i au;simp only[au,if_true,Option.some.injEq]at ha hb;subst ha;subst hb;exact hv
  .cases ha
 .simp only[sL,if_false]at ha hb;exact h.2 j a b ha hb
def AR.append {as bs:Array Value} (h:AR S p xs ys) (k:AR S p as bs):AR S p (xs++as) (ys++bs):=by
 refine⟨by simp[h.1,k.1],λi a b ha hb=>?_⟩;rw[Array.getElem?_append]at ha hb;rw[h.1]at ha;split at ha
 .rename_i au;simp only[au,if_true]at hb;exact h.2 i a b ha hb
 .rename_i au;simp only[au,if_false]at hb;exact k.2 _ a b ha hb
def AR.extract (h:AR S p xs ys) (i j:Nat):AR S p (xs.extract i j) (ys.extract i j):=by
 refine⟨by simp[h.1],λk a b ha hb=>?_⟩;rw[Array.getElem?_extract]at ha hb;split at ha
 .split at hb
  .exact h.2 _ a b ha hb
  .cases hb
 .cases ha
def AR.one (h:VR S p v v'):AR S p #[v] #[v']:=AR.push AR.empty h
def AR.replicate (n:Nat) (h:VR S p v v'):AR S p (Array.replicate n v) (Array.replicate n v'):=by
 refine⟨by simp,λi a b ha hb=>?_⟩;rw[Array.getElem?_replicate]at ha hb;split at ha
 .rename_i au;simp only[au,if_true,Option.some.injEq]at ha hb;subst ha;subst hb;exact h
 .cases ha
def AR.map {α:Type} (l:Array α) (f g:α->Value) (h:∀x∈l,VR S p (f x) (g x)):AR S p (l.map f) (l.map g):=by
 refine⟨by simp,λi a b ha hb=>?_⟩;rw[Array.getElem?_map]at ha hb;cases hl:l[i]? with
 |none=>rw[hl]at ha;cases ha
 |some x=>
  rw[hl]at ha hb;simp only[Option.map_some,Option.some.injEq]at ha hb;subst ha;subst hb;exact h x (Array.mem_of_getElem? hl)
def AR.ofFn (n:Nat) (f g:Nat->Value) (h:∀i,VR S p (f i) (g i)):AR S p ((Array.range n).map f) ((Array.range n).map g):=AR.map _ f g λx _=>h x
def VR.cells {v v':Value} (h:VR S p v v'):AR S p v.cells v'.cells:=by
 cases h with
 |agg hx gx=>exact⟨hx,gx⟩
 |bool b=>exact AR.one (.bool b)
 |int k n=>exact AR.one (.int k n)
 |string s=>exact AR.one (.string s)
 |xt=>exact AR.one .xt
 |ptr o sp g=>exact AR.one (.ptr o sp g)
 |dH l c=>exact AR.one (.dH l c)
 |slice o sp l c g hX=>exact AR.one (.slice o sp l c g hX)
 |dI o l hl g h0 hx=>exact AR.one (.dI o l hl g h0 hx)
 |gz o o' c' hl g=>exact AR.one (.gz o o' c' hl g)
 |xu=>exact AR.one .xu
 |map g=>exact AR.one (.map g)
 |chan c=>exact AR.one (.chan c)
 |func a b c d e=>exact AR.one (.func a b c d e)
 |yield g=>exact AR.one (.yield g)
 |nilFunc=>exact AR.one .nilFunc
 |nilIface=>exact AR.one .nilIface
 |iface g=>exact AR.one (.iface g)
 |tuple hx gx=>exact AR.one (.tuple hx gx)
 |eD hl a a'=>exact AR.one (.eD hl a a')
 |rV hl hj h=>
  have e:v'.cells=#[v']:=by cases v'<;>first|rfl|cases h
  rw[e];exact AR.one (.rV hl hj h)
 |E6 hl hj n xs ys=>exact AR.one (.E6 hl hj n xs ys)
end
def plain:Nat->Value->Bool
 |_,.bool _|_,.int _ _|_,.string _|_,.pointer none|_,.slice none _ _|_,.map none|_,.chan none|_,.nilFunc|_,.nilIface=>true
 |n+1,.agg xs|n+1,.tuple xs=>xs.all (plain n)
 |n+1,.iface _ v=>plain n v
 |_,_=>false
def VR.plain {S:Nat->Bool} {p:Pi}:∀(n:Nat) (v:Value),plain n v=true->VR S p v v:=by
 intro n;induction n with
 |zero=>
  intro v h;cases v<;>try simp only[aD.plain,Bool.false_eq_true]at h
  case bool b=>exact .bool b
  case int k n=>exact .int k n
  case string s=>exact .string s
  case pointer a=>cases a<;>first|exact .xt|exact absurd h (by simp[aD.plain])
  case slice a l c=>cases a<;>first|exact .dH l c|exact absurd h (by simp[aD.plain])
  case map a=>cases a<;>first|exact .xu|exact absurd h (by simp[aD.plain])
  case chan a=>exact .chan a
  case nilFunc=>exact .nilFunc
  case nilIface=>exact .nilIface
 |succ n ih=>
  intro v h;cases v<;>try simp only[aD.plain,Bool.false_eq_true]at h
  case bool b=>exact .bool b
  case int k n=>exact .int k n
  case string s=>exact .string s
  case pointer a=>cases a<;>first|exact .xt|exact absurd h (by simp[aD.plain])
  case slice a l c=>cases a<;>first|exact .dH l c|exact absurd h (by simp[aD.plain])
  case map a=>cases a<;>first|exact .xu|exact absurd h (by simp[aD.plain])
  case chan a=>exact .chan a
  case nilFunc=>exact .nilFunc
  case nilIface=>exact .nilIface
  case iface t v=>exact .iface (ih v h)
  case agg xs=>
   refine .agg rfl λi v v' hv qx=>?_;rw[hv]at qx;cases qx;obtain⟨au,he⟩:=Array.getElem?_eq_some_iff.1 hv;have:=Array.all_eq_true.1 h i au;rw[he]at this;exact ih v this
  case tuple xs=>
   refine .tuple rfl λi v v' hv qx=>?_;rw[hv]at qx;cases qx;obtain⟨au,he⟩:=Array.getElem?_eq_some_iff.1 hv;have:=Array.all_eq_true.1 h i au;rw[he]at this;exact ih v this
end Go.aD
