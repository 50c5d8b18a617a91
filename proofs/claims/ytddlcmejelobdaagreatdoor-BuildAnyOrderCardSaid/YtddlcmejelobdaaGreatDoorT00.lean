/- A part. Conditions: none. -/
import Derived.Calls
set_option linter.all false
namespace Go
abbrev fu:=Value
abbrev nq:=World
abbrev un:=Program
abbrev a00:=TypeId
end Go
namespace Go
abbrev zAA:=@Option.some.injEq
abbrev zAB:=@Nat.le_refl
abbrev zAC:=@Option.getD_some
abbrev zAD:=@Array.getElem?_eq_some_iff
abbrev zAE:=@Bool.and_eq_true
abbrev zAF:=@if_pos
abbrev zAG:=@if_neg
abbrev zAH:=@Prod.mk.injEq
abbrev zAI:=@Array.getElem?_eq_getElem
abbrev zAJ:=@List.getElem?_eq_getElem
abbrev zAK:=@Nat.eq_of_beq_eq_true
abbrev zAL:=@List.mem_cons
abbrev zAM:=@Nat.zero_le
abbrev zAN:=@Bool.false_eq_true
abbrev zAO:=@Nat.testBit_or
abbrev zAP:=@Nat.le_trans
abbrev zAQ:=@cond_false
abbrev zAR:=@List.mem_cons_of_mem
abbrev zAS:=@cond_true
abbrev zAT:=@List.getElem?_eq_some_iff
abbrev zAU:=@List.setIfInBounds_toArray
abbrev zAV:=@Option.some.inj
abbrev zAW:=@Array.getElem?_eq_none
abbrev zAX:=@Array.getD_eq_getD_getElem?
abbrev zAY:=@Nat.lt_of_lt_of_le
abbrev zAZ:=@List.length_append
abbrev zBA:=@Option.map_some
abbrev zBB:=@congrArg
abbrev zBC:=@Nat.le_of_ble_eq_true
abbrev zBD:=@Nat.add_assoc
abbrev zBE:=@Option.bind_eq_some_iff
abbrev zBF:=@List.getElem?_cons_zero
abbrev zBG:=@List.set_cons_succ
abbrev zBH:=@List.set_cons_zero
abbrev zBI:=@List.mem_of_getElem?
abbrev zBJ:=@if_false
abbrev zBK:=@Classical.byContradiction
abbrev zBL:=@List.mem_cons_self
abbrev zBM:=@Bool.or_eq_true
abbrev zBN:=@List.getElem?_cons_succ
abbrev zBO:=@List.mem_map
abbrev zBP:=@decide_eq_true_eq
abbrev zBQ:=@Array.all_eq_true
abbrev zBR:=@List.take_add_one
abbrev zBS:=@Array.getElem?_push
abbrev zBT:=@Array.getElem?_setIfInBounds
abbrev zBU:=@List.length_cons
abbrev zBV:=@if_true
abbrev zBW:=@Bool.or_true
abbrev zBX:=@List.not_mem_nil
abbrev zBY:=@Nat.eq_zero_or_pos
abbrev zBZ:=@List.eq_nil_of_length_eq_zero
abbrev zCA:=@List.getElem?_toArray
abbrev zCB:=@List.cons.injEq
abbrev zCC:=@List.length_nil
abbrev zCD:=@List.all_eq_true
abbrev zCE:=@Nat.lt_succ_self
abbrev zCF:=@List.mem_singleton
abbrev zCG:=@List.mem_filter
abbrev zCH:=@List.mem_append
abbrev zCI:=@Array.mem_iff_getElem
abbrev zCJ:=@List.map_append
abbrev zCK:=@true_and
abbrev zCL:=@Bool.not_eq_true'
abbrev zCM:=@List.getElem?_map
abbrev zCN:=@Array.getElem?_map
abbrev zCO:=@Array.mk.injEq
abbrev zCP:=@List.append_nil
abbrev zCQ:=@List.getElem_of_mem
abbrev zCR:=@List.flatMap_append
abbrev zCS:=@Array.getElem?_setIfInBounds_ne
abbrev zCT:=@Nat.add_sub_cancel_left
abbrev zCU:=@List.take_length
abbrev zCV:=@List.getElem?_append_left
abbrev zCW:=@List.flatMap_cons
abbrev zCX:=@Nat.lt_or_ge
abbrev zCY:=@Option.isSome_iff_exists
abbrev zCZ:=@List.getElem?_eq_none
abbrev zDA:=@List.foldl_cons
abbrev zDB:=@Option.map_eq_some_iff
abbrev zDC:=@List.length_pos_iff
abbrev zDD:=@Array.getElem?_modify
abbrev zDE:=@Array.mem_of_getElem?
abbrev zDF:=@List.mem_flatMap
abbrev zDG:=@List.cons_append
abbrev zDH:=@Nat.le_succ
abbrev zDI:=@List.mem_range
abbrev zDJ:=@Nat.mul_le_mul_right
abbrev zDK:=@List.append_assoc
abbrev zDL:=@Array.getElem?_append_right
abbrev zDM:=@List.length_map
abbrev zDN:=@Nat.zero_add
abbrev zDO:=@List.getElem?_append_right
abbrev zDP:=@Option.bind_some
abbrev zDQ:=@Array.getElem?_toList
abbrev zDR:=@Array.empty_append
abbrev zDS:=@decide_eq_true
abbrev zDT:=@List.getElem?_take
abbrev zDU:=@Array.size_setIfInBounds
abbrev zDV:=@decide_eq_false
abbrev zDW:=@List.nil_append
abbrev zDX:=@Nat.add_zero
abbrev zDY:=@Bool.true_or
abbrev zDZ:=@Array.getElem?_replicate
abbrev zEA:=@Int.toNat_natCast
abbrev zEB:=@Bool.false_or
abbrev zEC:=@and_true
abbrev zED:=@List.filter_cons
abbrev zEE:=@Array.forIn_toList
abbrev zEF:=@Bool.eq_iff_iff
abbrev zEG:=@Nat.not_lt_zero
abbrev zEH:=@List.length_filter_le
abbrev zEI:=@Bool.not_true
abbrev zEJ:=@Array.getElem?_append_left
abbrev zEK:=@of_decide_eq_true
abbrev zEL:=@Array.getElem_mem
abbrev zEM:=@Array.mapM_eq_foldlM
abbrev zEN:=@Array.replicate_succ
abbrev zEO:=@Array.replicate_zero
abbrev zEP:=@Nat.pow_le_pow_right
abbrev zEQ:=@List.exists_mem_of_ne_nil
abbrev zER:=@Array.mem_append
abbrev zES:=@Bool.not_eq_true
abbrev zET:=@beq_eq_false_iff_ne
abbrev zEU:=@List.append_toArray
abbrev zEV:=@Array.foldl_toList
abbrev zEW:=@Nat.or_comm
abbrev zEX:=@Array.size_append
abbrev zEY:=@List.size_toArray
abbrev zEZ:=@List.push_toArray
abbrev zFA:=@Bool.not_false
abbrev zFB:=@Nat.le_of_lt
abbrev zFC:=@Array.getElem?_append
abbrev zFD:=@List.take_append_drop
abbrev zFE:=@List.getElem?_reverse
abbrev zFF:=@Bool.or_eq_false_iff
abbrev zFG:=@List.pairwise_append
abbrev zFH:=@Nat.zero_or
abbrev zFI:=@Array.foldlM_toList
abbrev zFJ:=@Array.length_toList
abbrev zFK:=@List.pairwise_iff_getElem
abbrev zFL:=@List.pairwise_cons
abbrev zFM:=@Array.ext_getElem?
abbrev zFN:=@Array.append_assoc
abbrev zFO:=@List.getElem?_take_of_lt
abbrev zFP:=@List.filter_append
abbrev zFQ:=@List.Pairwise.imp_of_mem
abbrev zFR:=@List.pairwise_singleton
abbrev zFS:=@List.pairwise_map
abbrev zFT:=@List.Pairwise.imp
abbrev zFU:=@Nat.add_mul
abbrev zFV:=@List.take_of_length_le
abbrev zFW:=@List.foldlM_cons
abbrev zFX:=@Nat.le_add_right
abbrev zFY:=@Array.toList_map
abbrev zFZ:=@List.mem_toArray
abbrev zGB:=@List.flatMap_nil
abbrev zGC:=@List.mem_iff_getElem?
abbrev zGD:=@Bool.and_eq_false_iff
abbrev zGE:=@List.Pairwise.sublist
abbrev zGF:=@List.forIn_cons
abbrev zGG:=@Nat.zero_mul
abbrev zGH:=@Nat.mod_lt
abbrev zGI:=@Nat.ne_of_lt
abbrev zGL:=@Bool.false_and
end Go
namespace Go.aC
variable {a a':Addr} {c i n r r':Nat} {cW xs ys:Array Value} {dk es es1:Array Event} {gY w w' w1:World} {o o' x x':Obj} {t:TypeId} {v v':Value} {α β γ δ:Type}
structure Pi where
 m:Nat->Nat->Prop
 x:Nat->Nat->Prop
 l:Bool
instance : CoeFun Pi (λ_ => Nat -> Nat -> Prop) := ⟨Pi.m⟩
structure Le (p q:Pi):Prop where
 m:∀r r',p r r'->q r r'
 x:∀r n,p.x r n->q.x r n
 xr:∀r r' n,p r r'->q.x r n->p.x r n
 l:q.l=p.l
instance (p q : Pi) : CoeFun (Le p q) (λ_ => ∀ r r', p r r' -> q r r') := ⟨Le.m⟩
def Le.refl (p:Pi):Le p p:=⟨λ_ _ h=>h,λ_ _ h=>h,λ_ _ _ _ h=>h,rfl⟩
def Le.trans {p q s:Pi} (h:Le p q) (k:Le q s):Le p s:=⟨λr r' x=>k.m r r' (h.m r r' x),λr n x=>k.x r n (h.x r n x),λr r' n a x=>h.xr r r' n a (k.xr r r' n (h.m r r' a) x),k.l.trans h.l⟩
def dY:Value->Bool
 |.agg _|.tuple _=>false
 |_=>true
def SO:Value->Bool
 |.agg _|.tuple _|.bool _|.int _ _|.string _|.pointer none|.slice none _ _|.map none|.chan _|.nilFunc|.nilIface|.func (.method _) _ _=>false
 |_=>true
abbrev MF:Value:=.func (.method "") #[.iface 1000000 .nilIface] #[]
def JK:Nat:=1000000
inductive VR (S:Nat->Bool) (p:Pi):Value->Value->Prop
 |bool (b:Bool):VR S p (.bool b) (.bool b)
 |int (k:IntKind) (n:Int):VR S p (.int k n) (.int k n)
 |string (s:ByteArray):VR S p (.string s) (.string s)
 |wE:VR S p (.pointer none) (.pointer none)
 |ptr {r r':Nat} (o:Nat) (sp:Option Nat) (h:p r r'):VR S p (.pointer (some ⟨r,o,sp⟩)) (.pointer (some ⟨r',o,sp⟩))
 |dn (l c:Nat):VR S p (.slice none l c) (.slice none l c)
 |slice {r r':Nat} (o:Nat) (sp:Option Nat) (l c:Nat) (h:p r r') (hX:S 999999=true->∀k,¬p.x r k):VR S p (.slice (some ⟨r,o,sp⟩) l c) (.slice (some ⟨r',o,sp⟩) l c)
 |dp {r r' k:Nat} (o l:Nat) {c:Nat} (hl:p.l=true) (h:p r r') (h0:0<c) (hx:p.x r k):VR S p (.slice (some ⟨r,o,none⟩) l c) (.slice (some ⟨r',o,none⟩) l (c+k))
 |fT {r r':Nat} (o o' c':Nat) (hl:p.l=true) (h:p r r'):VR S p (.slice (some ⟨r,o,some 0⟩) 0 0) (.slice (some ⟨r',o',none⟩) 0 c')
 |wF:VR S p (.map none) (.map none)
 |map {r r':Nat} (h:p r r'):VR S p (.map (some r)) (.map (some r'))
 |chan (c:Option Nat):VR S p (.chan c) (.chan c)
 |func {f:Nat} {xs cW ys I5:Array Value} (h:S f=true) (hx:xs.size=cW.size) (hy:ys.size=I5.size)
   (gx:∀(i:Nat) (v v':Value),xs[i]?=some v->cW[i]?=some v'->VR S p v v') (gy:∀(i:Nat) (v v':Value),ys[i]?=some v->I5[i]?=some v'->VR S p v v'):
   VR S p (.func (.func f) xs ys) (.func (.func f) cW I5)
 |yield {l l':Nat} (h:p l l'):VR S p (.func (.yield l) #[] #[]) (.func (.yield l') #[] #[])
 |nilFunc:VR S p .nilFunc .nilFunc
 |nilIface:VR S p .nilIface .nilIface
 |iface {t:TypeId} {v v':Value} (h:VR S p v v'):VR S p (.iface t v) (.iface t v')
 |agg {xs cW:Array Value} (hx:xs.size=cW.size) (gx:∀(i:Nat) (v v':Value),xs[i]?=some v->cW[i]?=some v'->VR S p v v'):VR S p (.agg xs) (.agg cW)
 |tuple {xs cW:Array Value} (hx:xs.size=cW.size) (gx:∀(i:Nat) (v v':Value),xs[i]?=some v->cW[i]?=some v'->VR S p v v'):VR S p (.tuple xs) (.tuple cW)
 |ee (hl:p.l=false) (a a':Addr):VR S p (.slice (some a) 0 0) (.slice (some a') 0 0)
 |qX {v':Value} (hl:p.l=false) (hj:S JK=true) (h:SO v'=true):VR S p (.tuple #[]) v'
 |EA (hl:p.l=false) (hj:S JK=true) (n:String) (xs ys:Array Value):VR S p MF (.func (.method n) xs ys)
def VR.mono {S:Nat->Bool} {p q:Pi} (h:Le p q) (x:VR S p v v'):VR S q v v':=by
 induction x with
 |bool b=>exact .bool b
 |int k n=>exact .int k n
 |string s=>exact .string s
 |wE=>exact .wE
 |ptr o sp g=>exact .ptr o sp (h _ _ g)
 |dn l c=>exact .dn l c
 |slice o sp l c g hX=>exact .slice o sp l c (h _ _ g) λhs k hk=>hX hs k (h.xr _ _ _ g hk)
 |dp o l hl g h0 hx=>exact .dp o l (h.l.trans hl) (h _ _ g) h0 (h.x _ _ hx)
 |fT o o' c' hl g=>exact .fT o o' c' (h.l.trans hl) (h _ _ g)
 |wF=>exact .wF
 |map g=>exact .map (h _ _ g)
 |chan c=>exact .chan c
 |func hS hx hy _ _ YI ihy=>exact .func hS hx hy YI ihy
 |yield g=>exact .yield (h _ _ g)
 |nilFunc=>exact .nilFunc
 |nilIface=>exact .nilIface
 |iface _ ih=>exact .iface ih
 |agg hx _ ih=>exact .agg hx ih
 |tuple hx _ ih=>exact .tuple hx ih
 |ee hl a a'=>exact .ee (h.l.trans hl) a a'
 |qX hl hj g=>exact .qX (h.l.trans hl) hj g
 |EA hl hj n xs ys=>exact .EA (h.l.trans hl) hj n xs ys
def AR (S:Nat->Bool) (p:Pi) (xs ys:Array Value):Prop:=xs.size=ys.size/\∀(i:Nat) (v v':Value),xs[i]?=some v->ys[i]?=some v'->VR S p v v'
section
variable {S:Nat->Bool} {p q:Pi}
def AR.mono (h:Le p q) (x:AR S p xs ys):AR S q xs ys:=⟨x.1,λi v v' a b=>(x.2 i v v' a b).mono h⟩
def AR.empty:AR S p #[] #[]:=⟨rfl,λi v v' h=>by simp at h⟩
def AR.agg {xs ys:Array Value} (h:AR S p xs ys):VR S p (.agg xs) (.agg ys):=.agg h.1 h.2
def AR.tuple (h:AR S p xs ys):VR S p (.tuple xs) (.tuple ys):=.tuple h.1 h.2
def AR.get (h:AR S p xs ys) (hi:xs[i]?=some v):∃v',ys[i]?=some v'/\VR S p v v':=by
 have av:i<ys.size:=by rw[<-h.1];exact(Array.getElem?_eq_some_iff.1 hi).1
 exact⟨ys[i],Array.getElem?_eq_getElem av,h.2 i v _ hi (Array.getElem?_eq_getElem av)⟩
def AR.none (h:AR S p xs ys) (hi:xs[i]?=.none):ys[i]?=.none:=by
 rw[Array.getElem?_eq_none_iff]at hi⊢;rw[<-h.1];exact hi
def AR.getD (h:AR S p xs ys) (i:Nat) {d d':Value} (hd:VR S p d d'):VR S p (xs.getD i d) (ys.getD i d'):=by
 rw[Array.getD_eq_getD_getElem?,Array.getD_eq_getD_getElem?];cases hx:xs[i]? with
 |none=>rw[h.none hx];exact hd
 |some v=>obtain⟨v',qY,hr⟩:=h.get hx;rw[qY];exact hr
def AR.push (h:AR S p xs ys) (hv:VR S p v v'):AR S p (xs.push v) (ys.push v'):=by
 refine⟨by simp[h.1],λi a b ha hb=>?_⟩;rw[Array.getElem?_push]at ha hb;rw[h.1]at ha;by_cases hi:i=ys.size
 .simp only[hi,if_true,Option.some.injEq]at ha hb;subst ha;subst hb;exact hv
 .simp only[hi,if_false]at ha hb;exact h.2 i a b ha hb
def AR.set (h:AR S p xs ys) (i:Nat) (hv:VR S p v v'):AR S p (xs.setIfInBounds i v) (ys.setIfInBounds i v'):=by
 refine⟨by simp[h.1],λj a b ha hb=>?_⟩;rw[Array.getElem?_setIfInBounds]at ha hb;rw[h.1]at ha;by_cases rZ:i=j
 .subst rZ;simp only[if_true]at ha hb;split at ha
  .rename_i av;simp only[av,if_true,Option.some.injEq]at ha hb;subst ha;subst hb;exact hv
  .cases ha
 .simp only[rZ,if_false]at ha hb;exact h.2 j a b ha hb
def AR.append {as bs:Array Value} (h:AR S p xs ys) (k:AR S p as bs):AR S p (xs++as) (ys++bs):=by
 refine⟨by simp[h.1,k.1],λi a b ha hb=>?_⟩;rw[Array.getElem?_append]at ha hb;rw[h.1]at ha;split at ha
 .rename_i av;simp only[av,if_true]at hb;exact h.2 i a b ha hb
 .rename_i av;simp only[av,if_false]at hb;exact k.2 _ a b ha hb
def AR.extract (h:AR S p xs ys) (i j:Nat):AR S p (xs.extract i j) (ys.extract i j):=by
 refine⟨by simp[h.1],λk a b ha hb=>?_⟩;rw[Array.getElem?_extract]at ha hb;split at ha
 .split at hb
  .exact h.2 _ a b ha hb
  .cases hb
 .cases ha
def AR.one (h:VR S p v v'):AR S p #[v] #[v']:=AR.push AR.empty h
def AR.replicate (n:Nat) (h:VR S p v v'):AR S p (Array.replicate n v) (Array.replicate n v'):=by
 refine⟨by simp,λi a b ha hb=>?_⟩;rw[Array.getElem?_replicate]at ha hb;split at ha
 .rename_i av;simp only[av,if_true,Option.some.injEq]at ha hb;subst ha;subst hb;exact h
 .cases ha
def AR.map {α:Type} (l:Array α) (f g:α->Value) (h:∀x∈l,VR S p (f x) (g x)):AR S p (l.map f) (l.map g):=by
 refine⟨by simp,λi a b ha hb=>?_⟩;rw[Array.getElem?_map]at ha hb;cases hl:l[i]? with
 |none=>rw[hl]at ha;cases ha
 |some x=>
  rw[hl]at ha hb;simp only[Option.map_some,Option.some.injEq]at ha hb;subst ha;subst hb;exact h x (Array.mem_of_getElem? hl)
def AR.ofFn (n:Nat) (f g:Nat->Value) (h:∀i,VR S p (f i) (g i)):AR S p ((Array.range n).map f) ((Array.range n).map g):=AR.map _ f g λx _=>h x
def VR.cells {v v':Value} (h:VR S p v v'):AR S p v.cells v'.cells:=by
 cases h with
 |agg hx gx=>exact⟨hx,gx⟩
 |bool b=>exact AR.one (.bool b)
 |int k n=>exact AR.one (.int k n)
 |string s=>exact AR.one (.string s)
 |wE=>exact AR.one .wE
 |ptr o sp g=>exact AR.one (.ptr o sp g)
 |dn l c=>exact AR.one (.dn l c)
 |slice o sp l c g hX=>exact AR.one (.slice o sp l c g hX)
 |dp o l hl g h0 hx=>exact AR.one (.dp o l hl g h0 hx)
 |fT o o' c' hl g=>exact AR.one (.fT o o' c' hl g)
 |wF=>exact AR.one .wF
 |map g=>exact AR.one (.map g)
 |chan c=>exact AR.one (.chan c)
 |func a b c d e=>exact AR.one (.func a b c d e)
 |yield g=>exact AR.one (.yield g)
 |nilFunc=>exact AR.one .nilFunc
 |nilIface=>exact AR.one .nilIface
 |iface g=>exact AR.one (.iface g)
 |tuple hx gx=>exact AR.one (.tuple hx gx)
 |ee hl a a'=>exact AR.one (.ee hl a a')
 |qX hl hj h=>
  have e:v'.cells=#[v']:=by cases v'<;>first|rfl|cases h
  rw[e];exact AR.one (.qX hl hj h)
 |EA hl hj n xs ys=>exact AR.one (.EA hl hj n xs ys)
end
def plain:Nat->Value->Bool
 |_,.bool _|_,.int _ _|_,.string _|_,.pointer none|_,.slice none _ _|_,.map none|_,.chan none|_,.nilFunc|_,.nilIface=>true
 |n+1,.agg xs|n+1,.tuple xs=>xs.all (plain n)
 |n+1,.iface _ v=>plain n v
 |_,_=>false
def VR.plain {S:Nat->Bool} {p:Pi}:∀(n:Nat) (v:Value),plain n v=true->VR S p v v:=by
 intro n;induction n with
 |zero=>
  intro v h;cases v<;>try simp only[aC.plain,Bool.false_eq_true]at h
  case bool b=>exact .bool b
  case int k n=>exact .int k n
  case string s=>exact .string s
  case pointer a=>cases a<;>first|exact .wE|exact absurd h (by simp[aC.plain])
  case slice a l c=>cases a<;>first|exact .dn l c|exact absurd h (by simp[aC.plain])
  case map a=>cases a<;>first|exact .wF|exact absurd h (by simp[aC.plain])
  case chan a=>exact .chan a
  case nilFunc=>exact .nilFunc
  case nilIface=>exact .nilIface
 |succ n ih=>
  intro v h;cases v<;>try simp only[aC.plain,Bool.false_eq_true]at h
  case bool b=>exact .bool b
  case int k n=>exact .int k n
  case string s=>exact .string s
  case pointer a=>cases a<;>first|exact .wE|exact absurd h (by simp[aC.plain])
  case slice a l c=>cases a<;>first|exact .dn l c|exact absurd h (by simp[aC.plain])
  case map a=>cases a<;>first|exact .wF|exact absurd h (by simp[aC.plain])
  case chan a=>exact .chan a
  case nilFunc=>exact .nilFunc
  case nilIface=>exact .nilIface
  case iface t v=>exact .iface (ih v h)
  case agg xs=>
   refine .agg rfl λi v v' hv qY=>?_;rw[hv]at qY;cases qY;obtain⟨av,he⟩:=Array.getElem?_eq_some_iff.1 hv;have:=Array.all_eq_true.1 h i av;rw[he]at this;exact ih v this
  case tuple xs=>
   refine .tuple rfl λi v v' hv qY=>?_;rw[hv]at qY;cases qY;obtain⟨av,he⟩:=Array.getElem?_eq_some_iff.1 hv;have:=Array.all_eq_true.1 h i av;rw[he]at this;exact ih v this
abbrev ae (P:Program) (F:Array Func):Program:={P with funcs:=F}
def iY (p:Pi) (a a':Addr):Prop:=p a.block a'.block/\a.off=a'.off/\a.spot=a'.spot
def iY.mono {p q:Pi} (h:Le p q) (x:iY p a a'):iY q a a':=⟨h _ _ x.1,x.2⟩
def iY.add {p:Pi} (x:iY p a a') (n:Nat):iY p (a.add n) (a'.add n):=by
 unfold Addr.add;split
 .exact x
 .exact⟨x.1,by simp[x.2.1],rfl⟩
def iY.ptr {S:Nat->Bool} {p:Pi} (x:iY p a a'):VR S p (.pointer (some a)) (.pointer (some a')):=by
 obtain⟨b,o,sp⟩:=a;obtain⟨b',o',sp'⟩:=a';obtain⟨h1,h2,h3⟩:=x;simp only at h1 h2 h3;subst h2;subst h3;exact .ptr o sp h1
def iY.sl {S:Nat->Bool} {p:Pi} (x:iY p a a') (hX:S 999999=true->∀k,¬p.x a.block k) (l c:Nat):VR S p (.slice (some a) l c) (.slice (some a') l c):=by
 obtain⟨b,o,sp⟩:=a;obtain⟨b',o',sp'⟩:=a';obtain⟨h1,h2,h3⟩:=x;simp only at h1 h2 h3;subst h2;subst h3;exact .slice o sp l c h1 hX
def ER (S:Nat->Bool) (p:Pi) (e e':MapEntry):Prop:=VR S p e.key e'.key/\VR S p e.val e'.val/\e.born=e'.born
def ER.mono {S:Nat->Bool} {p q:Pi} (h:Le p q) {e e':MapEntry} (x:ER S p e e'):ER S q e e':=⟨x.1.mono h,x.2.1.mono h,x.2.2⟩
structure Kz where
 k:Code->Prop
 z:TypeId->Value->Prop
instance : CoeFun Kz (λ_ => Code -> Prop) := ⟨Kz.k⟩
inductive OR (S:Nat->Bool) (K:Kz) (p:Pi):Obj->Obj->Prop
 |cells {c c':Array Value} (e:TypeId) (fz:Nat×Nat) (hw:p.l=true->fz.1<=fz.2) (h:AR S p c c'):OR S K p (.cells c e fz) (.cells c' e fz)
 |cM {c c':Array Value} (hl:p.l=true) (e:TypeId) (fz fU:Nat×Nat) (hc:c.size<=c'.size) (hz:(fz.1=0/\c.size<=fz.2)\/((∀i,i<c'.size->¬(fU.1<=i/\i<fU.2))/\(S 999999=true->fU=(0,0)))) (hs:∀(i:Nat) (v':Value),c.size<=i->c'[i]?=some v'->(∃n,plain n v'=true)/\K.z e v') (h:∀(i:Nat) (v v':Value),c[i]?=some v->c'[i]?=some v'->VR S p v v'):OR S K p (.cells c e fz) (.cells c' e fU)
 |map {es dk:Array MapEntry} (k:Nat) (h:es.size=dk.size) (g:∀(i:Nat) (e e':MapEntry),es[i]?=some e->dk[i]?=some e'->ER S p e e'):OR S K p (.map es k) (.map dk k)
 |loop {l l':Loop} (h1:l.state=l'.state) (h2:l.pending=l'.pending) (h3:l.fn=l'.fn) (h4:AR S p l.tmps l'.tmps) (h5:l.params=l'.params)
   (h6:l.assign=l'.assign) (h7:l.body=l'.body) (h8:p l.defers l'.defers) (k1:S l.fn=true) (k2:K l.assign) (k3:K l.body) (k4:∀c,l.pending=some c->K c) (k5:K (.label (100000+l.fn))):OR S K p (.loop l) (.loop l')
 |number {a a':Addr} (l:Bool) (h:iY p a a'):OR S K p (.number a l) (.number a' l)
 |eJ:OR S K p (.deferred none) (.deferred none)
 |eK:OR S K p (.deferred (some [])) (.deferred (some []))
def OR.mono {S:Nat->Bool} {K:Kz} {p q:Pi} (h:Le p q) (x:OR S K p o o'):OR S K q o o':=by
 cases x with
 |cells e fz hw g=>exact .cells e fz (λx=>hw (h.l.symm.trans x)) (g.mono h)
 |cM hl e fz fU hc hz hs g=>exact .cM (h.l.trans hl) e fz fU hc hz hs λi v v' a b=>(g i v v' a b).mono h
 |map k g1 g2=>exact .map k g1 λi e e' a b=>(g2 i e e' a b).mono h
 |loop h1 h2 h3 h4 h5 h6 h7 h8 k1 k2 k3 k4 k5=>exact .loop h1 h2 h3 (h4.mono h) h5 h6 h7 (h _ _ h8) k1 k2 k3 k4 k5
 |number l g=>exact .number l (g.mono h)
 |eJ=>exact .eJ
 |eK=>exact .eK
def ShO (S:Nat->Bool) (p:Pi) (o o':Obj):Prop:=
 ∃c c' e fz,o=.cells c e (0,c.size)/\o'=.cells c' e fz/\AR S p c c'
def ShO.mono {S:Nat->Bool} {p q:Pi} (h:Le p q) (x:ShO S p o o'):ShO S q o o':=by
 obtain⟨c,c',e,fz,h1,h2,h3⟩:=x;exact⟨c,c',e,fz,h1,h2,h3.mono h⟩
def jk (o o':Obj):Prop:=∀c e fz c' e' fU,o=.cells c e fz->o'=.cells c' e' fU->c'.size=c.size
structure pC (P:Program) (p:Pi):Prop where
 inj:∀r r' s s',p r r'->p s s'->(p.l=true->r<P.globals.size)->(r=s↔r'=s')
 fix:∀r r',p r r'->(r<P.globals.size↔r'<P.globals.size)
 one:∀r r' s',p r r'->p r s'->r'=s'
 wG:p.l=false->∀r k,¬p.x r k
def pC.two {P:Program} {p:Pi} (h:pC P p) (hl:p.l=false) (r r' s s':Nat) (a:p r r') (b:p s s'):r=s↔r'=s':=h.inj r r' s s' a b λx=>by rw[hl]at x;cases x
structure WR (P:Program) (S:Nat->Bool) (K:Kz) (N:Nat) (p:Pi) (w w':World):Prop where
 inj:∀r r' s s',p r r'->p s s'->(r=s↔r'=s')
 blk:∀r r',p r r'->∃o o',w.heap[r]?=some o/\w'.heap[r']?=some o'/\((r<N/\ShO S p o o')\/(N<=r/\OR S K p o o'))
 low:N<=w.heap.size
 fix:∀r r',p r r'->(r<P.globals.size↔r'<P.globals.size)
 gE:P.globals.size<=w.heap.size
 kq:P.globals.size<=w'.heap.size
 str:p.l=false
 wG:∀r k,¬p.x r k
def dead:Halt->Prop
 |.stuck _=>True
 |.unsupported (.initOrder _)=>False
 |.unsupported _=>True
 |_=>False
def VR.dY {S:Nat->Bool} {p:Pi} (h:VR S p v v') (g:aC.dY v=true):aC.dY v'=true:=by cases h<;>first|rfl|cases g
def jZ (P:Program) (m:Mode) (a:Addr) (v:Value) (k:Sem α) (w:World) (es:Array Event) (h:dY v=false):
 ∃x,(Sem.store m a v k).runT P w es=(.halt x w,es)/\dead x:=by
 cases v<;>first|exact⟨_,rfl,trivial⟩|cases h
def cY (P:Program) (m:Mode) (a:Addr) (v:Value) (k:Sem α) (w:World) (es:Array Event) (h:dY v=true):
 (Sem.store m a v k).runT P w es=(match w.cell? a with
   |some _=>if w.frozen? a then(.halt (.unsupported (.unsafePointer "a write to bytes that a string shares")) w,es)else k.runT P (w.setCell a v) (es.push ⟨.cell a,true,m== .atomic⟩)
   |none=>match w.farStore P a v (m== .atomic)with
    |.ok (w',touched)=>k.runT P w' (es++touched.toArray.map (⟨.cell ·,true,m== .atomic⟩))
    |.error h=>(.halt h w,es)):=by
 cases v<;>first|rfl|cases h
def aE (P:Program) (s:Sem α):Prop:=∀(w:World) (es:Array Event),∃h w1 es1,s.runT P w es=(.halt h w1,es1)/\dead h
def t8 (P:Program) (f:α->Sem β) {h:Halt}:∀(s:Sem α) (w:World) (es:Array Event),s.runT P w es=(.halt h w1,es1)->(s.bind f).runT P w es=(.halt h w1,es1):=by
 intro s;induction s with
 |pure a=>intro w es e;cases e
 |load m a k ih=>
  intro w es e;simp only[Sem.bind,Sem.runT]at e⊢;cases hc:w.cell? a with
  |some v=>rw[hc]at e;exact ih v _ _ e
  |none=>
   rw[hc]at e;simp only at e⊢;cases hf:w.farLoad P a (m== .atomic)with
   |ok x=>rw[hf]at e;exact ih _ _ _ e
   |error x=>rw[hf]at e;simp only[Prod.mk.injEq,Result.halt.injEq]at e⊢;exact e
 |store m a v k ih=>
  intro w es e;cases hv:dY v with
  |false=>
   cases v<;>first|(cases hv;done)|(simp only[Sem.bind,Sem.runT,Prod.mk.injEq,Result.halt.injEq]at e⊢;exact e)
  |true=>
   rw[cY P m a v k w es hv]at e;show(Sem.store m a v (k.bind f)).runT P w es=_;rw[cY P m a v _ w es hv];cases hc:w.cell? a with
   |some u=>
    rw[hc]at e;simp only at e⊢;by_cases hz:w.frozen? a=true
    .simp only[hz,if_true,Prod.mk.injEq,Result.halt.injEq]at e⊢;exact e
    .simp only[hz,Bool.false_eq_true,if_false]at e⊢;exact ih _ _ e
   |none=>
    rw[hc]at e;simp only at e⊢;cases hf:w.farStore P a v (m== .atomic)with
    |ok x=>rw[hf]at e;exact ih _ _ e
    |error x=>rw[hf]at e;simp only[Prod.mk.injEq,Result.halt.injEq]at e⊢;exact e
 |new o k ih=>intro w es e;exact ih _ _ _ e
 |shape r k ih=>intro w es e;exact ih _ _ _ e
 |freeze a n k ih=>intro w es e;exact ih _ _ e
 |frozen a k ih=>intro w es e;exact ih _ _ _ e
 |getObj r k ih=>
  intro w es e;simp only[Sem.bind,Sem.runT]at e⊢;cases ho:w.heap[r]? with
  |none=>rw[ho]at e;simp only[Prod.mk.injEq,Result.halt.injEq]at e⊢;exact e
  |some o=>rw[ho]at e;cases o<;>first|exact ih _ _ _ e|(simp only[Prod.mk.injEq,Result.halt.injEq]at e⊢;exact e)
 |setObj r o k ih=>
  intro w es e;simp only[Sem.bind,Sem.runT]at e⊢;cases ho:w.heap[r]? with
  |none=>rw[ho]at e;simp only[Prod.mk.injEq,Result.halt.injEq]at e⊢;exact e
  |some o'=>rw[ho]at e;cases o'<;>first|exact ih _ _ e|(simp only[Prod.mk.injEq,Result.halt.injEq]at e⊢;exact e)
 |choose q k ih=>
  intro w es e;simp only[Sem.bind,Sem.runT]at e⊢;split at e
  .rename_i hq;simp only[hq,if_true];exact ih _ _ _ e
  .rename_i hq;simp only[hq,if_false,Bool.false_eq_true];exact ih _ _ _ e
 |sys c k ih=>intro w es e;exact ih _ _ _ e
 |program k ih=>intro w es e;exact ih _ _ _ e
 |mark m k ih=>intro w es e;exact ih _ _ e
 |halt x=>intro w es e;simp only[Sem.bind,Sem.runT,Prod.mk.injEq,Result.halt.injEq]at e⊢;exact e
def aE.bind {P:Program} {s:Sem α} (h:aE P s) (f:α->Sem β):aE P (s.bind f):=λw es=>
 let⟨x,w1,es1,e,d⟩:=h w es
 ⟨x,w1,es1,t8 P f s w es e,d⟩
def dZ (P:Program):Sem α->Prop
 |.pure _=>False
 |.load _ _ k=>∀v,dZ P (k v)
 |.store _ _ _ k=>dZ P k
 |.new _ k=>∀r,dZ P (k r)
 |.shape .. |.freeze .. |.frozen .. |.choose .. |.sys .. |.halt _=>True
 |.getObj _ k=>∀o,dZ P (k o)
 |.setObj _ _ k=>dZ P k
 |.program k=>dZ P (k P)
 |.mark _ k=>dZ P k
def dZ.bind {P:Program} {f:α->Sem β}:∀{s:Sem α},dZ P s->dZ P (s.bind f):=by
 intro s;induction s with
 |pure a=>intro h;exact h.elim
 |load m a k ih=>intro h v;exact ih v (h v)
 |store m a v k ih=>intro h;exact ih h
 |new o k ih=>intro h r;exact ih r (h r)
 |shape r k ih=>intro h;exact trivial
 |freeze a n k ih=>intro h;exact trivial
 |frozen a k ih=>intro h;exact trivial
 |getObj r k ih=>intro h o;exact ih o (h o)
 |setObj r o k ih=>intro h;exact ih h
 |choose q k ih=>intro h;exact trivial
 |sys c k ih=>intro h;exact trivial
 |program k ih=>intro h;exact ih P h
 |mark m k ih=>intro h;exact ih h
 |halt x=>intro h;exact trivial
def dZ.SP {P:Program} {f:α->Sem β} (g:∀a,dZ P (f a)):∀s:Sem α,dZ P (s.bind f):=by
 intro s;induction s with
 |pure a=>exact g a
 |load m a k ih=>intro v;exact ih v
 |store m a v k ih=>exact ih
 |new o k ih=>intro r;exact ih r
 |shape r k ih=>exact trivial
 |freeze a n k ih=>exact trivial
 |frozen a k ih=>exact trivial
 |getObj r k ih=>intro o;exact ih o
 |setObj r o k ih=>exact ih
 |choose q k ih=>exact trivial
 |sys c k ih=>exact trivial
 |program k ih=>exact ih P
 |mark m k ih=>exact ih
 |halt x=>exact trivial
def Dd (P:Program) (p:Pi) (s:Sem α):Prop:=(p.l=true/\dZ P s)\/(p.l=false/\aE P s)
def Dd.bind {P:Program} {p:Pi} {s:Sem α} (h:Dd P p s) (f:α->Sem β):Dd P p (s.bind f):=h.imp (λx=>⟨x.1,x.2.bind⟩) λx=>⟨x.1,x.2.bind f⟩
def tF (P:Program) (F:Array Func) (S:Nat->Bool) (K:Kz) (N:Nat) (Q:Pi->α->β->Prop):Sem α->Sem β->Pi->Prop
 |.pure a,s',p=>match s' with|.pure b=>Q p a b|_=>False
 |.load m a k,s',p=>match s' with
  |.load m' a' k'=>m=.plain/\m'=.plain/\iY p a a'/\∀v v',VR S p v v'->tF P F S K N Q (k v) (k' v') p
  |_=>False
 |.store m a v k,s',p=>match s' with
  |.store m' a' v' k'=>m=.plain/\m'=.plain/\iY p a a'/\VR S p v v'/\tF P F S K N Q k k' p
  |_=>False
 |.new o k,s',p=>match s' with
  |.new o' k'=>OR S K p o o'/\(p.l=true->jk o o')/\∀r r' q,Le p q->pC P q->q r r'->N<=r->(∀k,¬q.x r k)->tF P F S K N Q (k r) (k' r') q
  |_=>False
 |.shape r k,s',p=>Dd P p (.shape r k)\/∃r' k',s'=.shape r' k'/\p r r'/\∀x,tF P F S K N Q (k x) (k' x) p
 |.freeze a n k,s',p=>p.l=true\/∃a' k',s'=.freeze a' n k'/\iY p a a'/\N<=a.block/\tF P F S K N Q k k' p
 |.frozen a k,_,p=>Dd P p (.frozen a k)
 |.getObj r k,s',p=>match s' with
  |.getObj r' k'=>p r r'/\∀o o',OR S K p o o'->tF P F S K N Q (k o) (k' o') p
  |_=>False
 |.setObj r o k,s',p=>match s' with
  |.setObj r' o' k'=>p r r'/\OR S K p o o'/\(p.l=true->jk o o')/\tF P F S K N Q k k' p
  |_=>False
 |.choose q k,s',p=>p.l=true\/∃k',s'=.choose q k'/\∀n,tF P F S K N Q (k n) (k' n) p
 |.sys ..,_,p=>p.l=true
 |.program k,s',p=>Dd P p (.program k)\/∃k',s'=.program k'/\tF P F S K N Q (k P) (k' (ae P F)) p
 |.mark m k,s',p=>(p.l=true/\m≠ .noRoom)\/Dd P p (.mark m k)\/(m=.noRoom/\∃k',s'=.mark .noRoom k'/\tF P F S K N Q k k' p)
 |.halt h,s',p=>p.l=true\/dead h\/∃v v',h=.panic v/\s'=.halt (.panic v')/\VR S p v v'
def SR (P:Program) (F:Array Func) (S:Nat->Bool) (K:Kz) (N:Nat) (Q:Pi->α->β->Prop) (s:Sem α) (s':Sem β) (p:Pi):Prop:=pC P p->tF P F S K N Q s s' p
section
variable {P:Program} {F:Array Func} {S:Nat->Bool} {K:Kz} {N:Nat}
def tF.bind {Q:Pi->α->β->Prop} {Q':Pi->γ->δ->Prop} {f:α->Sem γ} {f':β->Sem δ}:
 ∀{s:Sem α} {s':Sem β} {p:Pi},pC P p->tF P F S K N Q s s' p->(∀q a b,Le p q->pC P q->Q q a b->tF P F S K N Q' (f a) (f' b) q)->tF P F S K N Q' (s>>=f) (s'>>=f') p:=by
 intro s;induction s with
 |pure a=>intro s' p hp h g;cases s'<;>first|exact g _ _ _ (Le.refl _) hp h|exact h.elim
 |load m a k ih=>intro s' p hp h g;cases s'<;>first|exact⟨h.1,h.2.1,h.2.2.1,λv v' x=>ih v hp (h.2.2.2 v v' x) g⟩|exact h.elim
 |store m a v k ih=>intro s' p hp h g;cases s'<;>first|exact⟨h.1,h.2.1,h.2.2.1,h.2.2.2.1,ih hp h.2.2.2.2 g⟩|exact h.elim
 |new o k ih=>intro s' p hp h g;cases s'<;>first|exact⟨h.1,h.2.1,λr r' q a b c d n=>ih r b (h.2.2 r r' q a b c d n) λq' x y l=>g q' x y (a.trans l)⟩|exact h.elim
 |shape r k ih=>
  intro s' p hp h g;rcases h with h|⟨r',k',rfl,h1,h2⟩
  .exact .inl (h.bind f)
  .exact .inr ⟨r',λx=>k' x>>=f',rfl,h1,λx=>ih x hp (h2 x) g⟩
 |freeze a n k ih=>
  intro s' p hp h g;rcases h with h|⟨a',k',rfl,h1,h2,h3⟩
  .exact .inl h
  .exact .inr ⟨a',k'>>=f',rfl,h1,h2,ih hp h3 g⟩
 |frozen a k ih=>intro s' p hp h g;exact Dd.bind h f
 |getObj r k ih=>intro s' p hp h g;cases s'<;>first|exact⟨h.1,λo o' a=>ih o hp (h.2 o o' a) g⟩|exact h.elim
 |setObj r o k ih=>intro s' p hp h g;cases s'<;>first|exact⟨h.1,h.2.1,h.2.2.1,ih hp h.2.2.2 g⟩|exact h.elim
 |choose q k ih=>
  intro s' p hp h g;rcases h with h|⟨k',rfl,h1⟩
  .exact .inl h
  .exact .inr ⟨λx=>k' x>>=f',rfl,λn=>ih n hp (h1 n) g⟩
 |sys c k ih=>intro s' p hp h g;exact h
 |program k ih=>
  intro s' p hp h g;rcases h with h|⟨k',rfl,h1⟩
  .exact .inl (h.bind f)
  .exact .inr ⟨λx=>k' x>>=f',rfl,ih P hp h1 g⟩
 |mark m k ih=>
  intro s' p hp h g;rcases h with h|h|⟨rfl,k',rfl,h1⟩
  .exact .inl h
  .exact .inr (.inl (h.bind f))
  .exact .inr (.inr ⟨rfl,k'>>=f',rfl,ih hp h1 g⟩)
 |halt x=>
  intro s' p hp h g;rcases h with h|h|⟨v,v',h1,h2,h3⟩
  .exact .inl h
  .exact .inr (.inl h)
  .exact .inr (.inr ⟨v,v',h1,by rw[h2];rfl,h3⟩)
def SR.bind {Q:Pi->α->β->Prop} {Q':Pi->γ->δ->Prop} {f:α->Sem γ} {f':β->Sem δ} {s:Sem α} {s':Sem β} {p:Pi}
 (h:SR P F S K N Q s s' p) (g:∀q a b,Le p q->Q q a b->SR P F S K N Q' (f a) (f' b) q):SR P F S K N Q' (s>>=f) (s'>>=f') p:=
 λhp=>tF.bind hp (h hp) λq a b hq ho x=>g q a b hq x ho
end
def zk:Sem α->Bool
 |.shape .. |.frozen .. |.mark .. |.program .. |.halt ..=>true
 |_=>false
def SR.kS {P:Program} {F:Array Func} {S:Nat->Bool} {K:Kz} {N:Nat} {Q:Pi->α->β->Prop} {s:Sem α} {s':Sem β} {p:Pi} (h:Dd P p s) (hh:zk s=true):SR P F S K N Q s s' p:=by
 intro _;cases s<;>first|(cases hh;done)|exact h|exact .inl h|exact .inr (.inl h)|skip
 rcases h with⟨hl,_⟩|⟨_,h⟩
 .exact .inl hl
 obtain⟨x,w1,es1,e,d⟩:=h default #[];simp only[Sem.runT,Prod.mk.injEq,Result.halt.injEq]at e;exact .inr (.inl (e.1.1▸d))
def world:Result α->World
 |.ok _ w=>w
 |.halt _ w=>w
def I6:∀(a:Ask α) (w:World),w.drawn<=(w.ask a).2.drawn:=by
 intro a;induction a with
 |done x=>intro w;exact Nat.le_refl _
 |ask Pn range k ih=>
  intro w;simp only[World.ask];split
  .exact ih _ w
  .have:=ih ((Question.extern Pn range).cut (w.tape w.drawn (Question.extern Pn range))) {w with drawn:=w.drawn+1};simp only at this;omega
def I7 (w:World) (c:Sys):w.drawn<=(w.sys c).2.drawn:=by
 unfold World.sys;have:=I6 (Kernel.perform c w.os) w;split
 .exact Nat.le_refl _
 .rename_i h;rw[h]at this;exact this
def zl (w:World) (a:Addr) (n:Nat):(w.freeze a n).drawn=w.drawn:=by unfold World.freeze;split<;>rfl
def ub {P:Program} {b:Bool} {l:List Addr} (h:w.farStore P a v b=.ok (w',l)):w'.drawn=w.drawn:=by
 unfold World.farStore at h;split at h
 .rename_i at_ u _;cases hv:w.viewStore P at_ u a v b with
  |error e=>rw[hv]at h;cases h
  |ok x=>
   rw[hv]at h;simp only[Except.ok.injEq]at h;subst h;unfold World.viewStore at hv;simp only[bind,Except.bind]at hv;split at hv
   .cases hv
   .split at hv
    .cases hv
    .split at hv
     .split at hv
      .cases hv
      .split at hv
       .cases hv
       .simp only[pure,Except.pure,Except.ok.injEq,Prod.mk.injEq]at hv;rw[<-hv.1]
     .cases hv
 .cases h
def oE (P:Program):∀(s:Sem α) (w:World) (es:Array Event),w.drawn<=(world (s.runT P w es).1).drawn:=by
 intro s;induction s with
 |pure a=>intro w es;exact Nat.le_refl _
 |load m a k ih=>
  intro w es;simp only[Sem.runT];split
  .exact ih _ w _
  .split
   .exact ih _ w _
   .exact Nat.le_refl _
 |store m a v k ih=>
  intro w es
  have key:∀w1:World,w1.drawn=w.drawn->∀es1,w.drawn<=(world (k.runT P w1 es1).1).drawn:=λw1 h es1=>by
   have:=ih w1 es1;omega
  cases GU:dY v with
  |false=>obtain⟨h,e,_⟩:=jZ P m a v k w es GU;rw[e];exact Nat.le_refl _
  |true=>
   rw[cY P m a v k w es GU];cases w.cell? a with
   |some _=>
    simp only;split
    .exact Nat.le_refl _
    .exact key (w.setCell a v) rfl _
   |none=>
    simp only;split
    .rename_i h;exact key _ (ub h) _
    .exact Nat.le_refl _
 |new o k ih=>intro w es;exact ih _ {w with heap:=w.heap.push o} es
 |shape r k ih=>intro w es;exact ih _ w es
 |freeze a n k ih=>intro w es;have:=ih (w.freeze a n) es;rw[zl]at this;exact this
 |frozen a k ih=>intro w es;exact ih _ w es
 |getObj r k ih=>
  intro w es;simp only[Sem.runT];split
  .exact Nat.le_refl _
  .exact ih _ w _
  .exact Nat.le_refl _
 |setObj r o k ih=>
  intro w es;simp only[Sem.runT];split
  .exact Nat.le_refl _
  .exact ih {w with heap:=w.heap.setIfInBounds r o} _
  .exact Nat.le_refl _
 |choose q k ih=>
  intro w es;simp only[Sem.runT];split
  .exact ih 0 w es
  .have:=ih (q.cut (w.tape w.drawn q)) {w with drawn:=w.drawn+1} es;simp only at this;omega
 |sys c k ih=>intro w es;exact Nat.le_trans (I7 w c) (ih _ _ _)
 |program k ih=>intro w es;exact ih P w es
 |mark m k ih=>intro w es;exact ih w _
 |halt h=>intro w es;exact Nat.le_refl _
def ext (p:Pi) (L C c:Nat):Pi:=⟨λr r'=>p r r'\/∃k,k<c/\r=L+k/\r'=C+k,p.x,p.l⟩
def fG (p:Pi) (L C c:Nat):Le p (ext p L C c):=⟨λ_ _ h=>.inl h,λ_ _ h=>h,λ_ _ _ _ h=>h,rfl⟩
def Pi.ext {p q:Pi} (h:∀r r',p r r'↔q r r') (hx:p.x=q.x) (hl:p.l=q.l):p=q:=by
 obtain⟨m,x,l⟩:=p;obtain⟨m',x',l'⟩:=q;cases hx;cases hl;have:m=m':=by funext r r';exact propext (h r r')
 rw[this]
def bN (p:Pi) (L C:Nat):ext p L C 0=p:=Pi.ext (λr r'=>⟨λh=>h.elim id (λ⟨k,hk,_⟩=>absurd hk (Nat.not_lt_zero k)),.inl⟩) rfl rfl
def pD (p:Pi) (L C c d:Nat):ext (ext p L C c) (L+c) (C+c) d=ext p L C (c+d):=by
 refine Pi.ext (λr r'=>?_) rfl rfl;constructor
 .rintro((h|⟨k,hk,h1,h2⟩)|⟨k,hk,h1,h2⟩)
  .exact .inl h
  .exact .inr ⟨k,by omega,h1,h2⟩
  .exact .inr ⟨c+k,by omega,by omega,by omega⟩
 .rintro(h|⟨k,hk,h1,h2⟩)
  .exact .inl (.inl h)
  .by_cases hc:k<c
   .exact .inl (.inr ⟨k,hc,h1,h2⟩)
   .exact .inr ⟨k-c,by omega,by omega,by omega⟩
def OP (N:Nat) (p:Pi) (e:Event):Prop:=
 e=noRoomEvent\/(e.sync=false/\∃r r',p r r'/\((∃a:Addr,e.loc=.cell a/\a.block=r')\/e.loc=.obj r')/\(e.write=true->N<=r))
def OP.mono {N:Nat} {p q:Pi} (h:Le p q) {e:Event} (x:OP N p e):OP N q e:=by
 rcases x with x|⟨h1,r,r',h2,h3,h4⟩
 .exact .inl x
 .exact .inr ⟨h1,r,r',h _ _ h2,h3,h4⟩
structure cQ (P:Program) (S:Nat->Bool) (K:Kz) (N:Nat) (p:Pi) (w w':World) (c n:Nat) (w1 gY:World):Prop where
 rel:WR P S K N (ext p w.heap.size w'.heap.size c) w1 gY
 size:w1.heap.size=w.heap.size+c
 my:gY.heap.size=w'.heap.size+c
 drawn:w1.drawn=w.drawn+n
 mz:gY.drawn=w'.drawn+n
 tape:w1.tape=w.tape
 GV:gY.tape=w'.tape
 os':gY.os=w'.os
 Uw:gY.output=w'.output
 others:∀r',r'<w'.heap.size->(∀r,p r r'->r<N)->gY.heap[r']?=w'.heap[r']?
section
variable {P:Program} {F:Array Func} {S:Nat->Bool} {K:Kz} {N:Nat}
def cQ.refl {p:Pi} (h:WR P S K N p w w'):cQ P S K N p w w' 0 0 w w':=
 ⟨by rw[bN];exact h,rfl,rfl,rfl,rfl,rfl,rfl,rfl,rfl,λ_ _ _=>rfl⟩
def WR.lt {p:Pi} (h:WR P S K N p w w') (x:p r r'):r<w.heap.size/\r'<w'.heap.size:=by
 obtain⟨o,o',h1,h2,_⟩:=h.blk r r' x;exact⟨(Array.getElem?_eq_some_iff.1 h1).1,(Array.getElem?_eq_some_iff.1 h2).1⟩
def cQ.trans {p:Pi} {w2 Po:World} {c2 n2:Nat} (h:cQ P S K N p w w' c n w1 gY)
 (k:cQ P S K N (ext p w.heap.size w'.heap.size c) w1 gY c2 n2 w2 Po):cQ P S K N p w w' (c+c2) (n+n2) w2 Po:=by
 have hr:=k.rel;rw[h.size,h.my,pD]at hr;refine⟨hr,by rw[k.size,h.size];omega,by rw[k.my,h.my];omega,by rw[k.drawn,h.drawn];omega,by rw[k.mz,h.mz];omega,k.tape.trans h.tape,k.GV.trans h.GV,k.os'.trans h.os',k.Uw.trans h.Uw,λr' sb ho=>?_⟩;rw[k.others r' (by rw[h.my];omega) (λr x=>?_),h.others r' sb ho];rcases x with x|⟨j,_,_,h2⟩
 .exact ho r x
 .omega
def WR.cell {p:Pi} (h:WR P S K N p w w') (ha:iY p a a') (hv:w.cell? a=some v):∃v',w'.cell? a'=some v'/\VR S p v v':=by
 obtain⟨o,o',h1,h2,h3⟩:=h.blk _ _ ha.1;unfold World.cell? at hv⊢;rw[h1]at hv;rw[h2]
 have key:∀(c c':Array Value),AR S p c c'->(if a.spot.isSome=true then none else c[a.off]?)=some v->∃v',(if a'.spot.isSome=true then none else c'[a'.off]?)=some v'/\VR S p v v':=by
  intro c c' hc hx;rw[<-ha.2.2,<-ha.2.1];split at hx
  .cases hx
  .rename_i hs;simp only[hs];exact hc.get hx
 rcases h3 with⟨_,c,c',e,fz,rfl,rfl,hc⟩|⟨_,hc⟩
 .exact key c c' hc hv
 .cases hc with
  |cells e fz hw hc=>exact key _ _ hc hv
  |cM hl=>rw[h.str]at hl;cases hl
  |_=>cases hv
def WR.Ux {p:Pi} (h:WR P S K N p w w') (ha:iY p a a') (Pn:String):∃x,w.noCell a Pn=x/\dead x/\(∀b,w.farLoad P a b=.error (w.noCell a "load: no such cell"))/\(∀v b,w.farStore P a v b=.error (w.noCell a "store: no such cell")):=by
 obtain⟨o,o',h1,h2,h3⟩:=h.blk _ _ ha.1
 have hk:(∀c e,o≠ .pending c e)/\(∀b t,o≠ .view b t):=by
  rcases h3 with⟨_,c,c',e,fz,rfl,rfl,hc⟩|⟨_,hc⟩
  .exact⟨λ_ _ h=>(by cases h),λ_ _ h=>(by cases h)⟩
  .cases hc<;>exact⟨λ_ _ h=>(by cases h),λ_ _ h=>(by cases h)⟩
 refine⟨_,rfl,?_,λb=>?_,λv b=>?_⟩
 .unfold World.noCell;rw[h1];cases o<;>first|trivial|exact absurd rfl (hk.1 _ _)|exact absurd rfl (hk.2 _ _)
 .unfold World.farLoad;rw[h1];cases o<;>first|rfl|exact absurd rfl (hk.2 _ _)
 .unfold World.farStore;rw[h1];cases o<;>first|rfl|exact absurd rfl (hk.2 _ _)
def WR.setCell {p:Pi} (h:WR P S K N p w w') (ha:iY p a a') (hv:VR S p v v') (hN:N<=a.block):WR P S K N p (w.setCell a v) (w'.setCell a' v'):=by
 refine⟨h.inj,λr r' hr=>?_,by simpa [World.setCell]using h.low,h.fix,by simpa [World.setCell]using h.gE,by simpa [World.setCell]using h.kq,h.str,h.wG⟩;obtain⟨o,o',h1,h2,h3⟩:=h.blk r r' hr;have Bx:=h.inj r r' a.block a'.block hr ha.1;by_cases e:r=a.block
 .have e':=Bx.1 e;rcases h3 with⟨av,_⟩|⟨By,hc⟩
  .omega
  .simp only[World.setCell,Array.getElem?_modify,e,e',if_true];rw[e]at h1;rw[e']at h2;rw[h1,h2];refine⟨_,_,rfl,rfl,.inr ⟨hN,?_⟩⟩;cases hc with
   |cM hl=>rw[h.str]at hl;cases hl
   |cells el fz hw hc=>
    simp only[ha.2.2,ha.2.1];split
    .exact .cells el fz hw hc
    .exact .cells el fz hw (hc.set _ hv)
   |map k a b=>exact .map k a b
   |loop a b c d e f g h' i j k l m=>exact .loop a b c d e f g h' i j k l m
   |number l g=>exact .number l g
   |eJ=>exact .eJ
   |eK=>exact .eK
 .have e':r'≠a'.block:=λx=>e (Bx.2 x);simp only[World.setCell,Array.getElem?_modify,Ne.symm e,Ne.symm e',if_false];exact⟨o,o',h1,h2,h3⟩
def WR.setObj {p:Pi} (h:WR P S K N p w w') {r0 r0':Nat} (ha:p r0 r0') (hx:OR S K p x x') (hN:N<=r0):WR P S K N p {w with heap:=w.heap.setIfInBounds r0 x} {w' with heap:=w'.heap.setIfInBounds r0' x'}:=by
 refine⟨h.inj,λr r' hr=>?_,by simpa using h.low,h.fix,by simpa using h.gE,by simpa using h.kq,h.str,h.wG⟩;obtain⟨o,o',h1,h2,h3⟩:=h.blk r r' hr;have Bx:=h.inj r r' r0 r0' hr ha;have hl:=h.lt ha;by_cases e:r=r0
 .have e':=Bx.1 e;subst e;subst e';simp only[Array.getElem?_setIfInBounds,if_true,hl.1,hl.2];exact⟨_,_,rfl,rfl,.inr ⟨hN,hx⟩⟩
 .have e':r'≠r0':=λx=>e (Bx.2 x);simp only[Array.getElem?_setIfInBounds,Ne.symm e,Ne.symm e',if_false];exact⟨o,o',h1,h2,h3⟩
def WR.push {p:Pi} (h:WR P S K N p w w') (hx:OR S K p x x'):WR P S K N (ext p w.heap.size w'.heap.size 1) {w with heap:=w.heap.push x} {w' with heap:=w'.heap.push x'}:=by
 have hle:=fG p w.heap.size w'.heap.size 1;refine⟨λr r' s s' hr hs=>?_,λr r' hr=>?_,by simp;have:=h.low;omega,λr r' hr=>?_,by simp;have:=h.gE;omega,by simp;have:=h.kq;omega,h.str,h.wG⟩
 .rcases hr with hr|⟨k,hk,h1,h2⟩<;>rcases hs with hs|⟨j,hj,h3,h4⟩
  .exact h.inj r r' s s' hr hs
  .have:=h.lt hr;omega
  .have:=h.lt hs;omega
  .omega
 .rcases hr with hr|⟨k,hk,h1,h2⟩
  .obtain⟨o,o',h1,h2,h3⟩:=h.blk r r' hr;have hl:=h.lt hr;refine⟨o,o',by simp only[Array.getElem?_push,Nat.ne_of_lt hl.1,if_false];exact h1,by simp only[Array.getElem?_push,Nat.ne_of_lt hl.2,if_false];exact h2,?_⟩;exact h3.imp (λ⟨a,b⟩=>⟨a,b.mono hle⟩) (λ⟨a,b⟩=>⟨a,b.mono hle⟩)
  .have qZ:k=0:=by omega
   subst qZ;simp only[Nat.add_zero]at h1 h2;subst h1;subst h2;exact⟨x,x',by simp,by simp,.inr ⟨h.low,hx.mono hle⟩⟩
 .rcases hr with hr|⟨k,hk,h1,h2⟩
  .exact h.fix r r' hr
  .have:=h.gE;have:=h.kq;omega
def WR.ok {p:Pi} (h:WR P S K N p w w'):pC P p:=⟨λr r' s s' a b _=>h.inj r r' s s' a b,h.fix,λr r' s' a b=>(h.inj r r' r s' a b).1 rfl,λ_=>h.wG⟩
def WR.freeze {p:Pi} (h:WR P S K N p w w') (ha:iY p a a') (n:Nat) (hN:N<=a.block):WR P S K N p (w.freeze a n) (w'.freeze a' n):=by
 unfold World.freeze;split
 .exact h
 .refine⟨h.inj,λr r' hr=>?_,by simpa using h.low,h.fix,by simpa using h.gE,by simpa using h.kq,h.str,h.wG⟩;obtain⟨o,o',h1,h2,h3⟩:=h.blk r r' hr;have Bx:=h.inj r r' a.block a'.block hr ha.1;by_cases e:r=a.block
  .have e':=Bx.1 e;rcases h3 with⟨av,_⟩|⟨By,hc⟩
   .omega
   .simp only[Array.getElem?_modify,e,e',if_true];rw[e]at h1;rw[e']at h2;rw[h1,h2];refine⟨_,_,rfl,rfl,.inr ⟨hN,?_⟩⟩;cases hc with
    |cM hl=>rw[h.str]at hl;cases hl
    |cells el fz hw hc=>
     simp only[ha.2.1];exact .cells el _ (λx=>by rw[h.str]at x;cases x) hc
    |map k a b=>exact .map k a b
    |loop a b c d e f g h' i j k l m=>exact .loop a b c d e f g h' i j k l m
    |number l g=>exact .number l g
    |eJ=>exact .eJ
    |eK=>exact .eK
  .have e':r'≠a'.block:=λx=>e (Bx.2 x);simp only[Array.getElem?_modify,Ne.symm e,Ne.symm e',if_false];exact⟨o,o',h1,h2,h3⟩
def pE (es:Array α) (e:α):es.push e=es++#[e]:=by simp
def Out (P:Program) (F:Array Func) (S:Nat->Bool) (K:Kz) (N:Nat) (Q:Pi->α->β->Prop) (s:Sem α) (s':Sem β) (p:Pi) (w w':World) (es dk:Array Event):Prop:=
 (∃h w1 es1,s.runT P w es=(.halt h w1,es1)/\dead h)\/
 ∃c n w1 gY es1 fs,cQ P S K N p w w' c n w1 gY/\(∀e∈fs,OP N (ext p w.heap.size w'.heap.size c) e)/\
  ((∃a b,s.runT P w es=(.ok a w1,es1)/\s'.runT (ae P F) w' dk=(.ok b gY,dk++fs)/\Q (ext p w.heap.size w'.heap.size c) a b)\/
   (∃v v',s.runT P w es=(.halt (.panic v) w1,es1)/\s'.runT (ae P F) w' dk=(.halt (.panic v') gY,dk++fs)/\VR S (ext p w.heap.size w'.heap.size c) v v'))
def Dd.out {Q:Pi->α->β->Prop} {s:Sem α} {s':Sem β} {p:Pi} (h:Dd P p s) (hw:WR P S K N p w w'):Out P F S K N Q s s' p w w' es dk:=by
 rcases h with⟨h,_⟩|⟨_,h⟩
 .rw[hw.str]at h;cases h
 .obtain⟨x,w1,es1,e,hd⟩:=h w es;exact .inl ⟨x,w1,es1,e,hd⟩
def Out.head {Q:Pi->α->β->Prop} {s t:Sem α} {s' t':Sem β} {p:Pi} {gs:Array Event}
 (e:s.runT P w es=t.runT P w1 es1) (e':s'.runT (ae P F) w' dk=t'.runT (ae P F) gY (dk++gs)) (hm:cQ P S K N p w w' c n w1 gY)
 (hg:∀x∈gs,OP N (ext p w.heap.size w'.heap.size c) x)
 (h:Out P F S K N Q t t' (ext p w.heap.size w'.heap.size c) w1 gY es1 (dk++gs)):Out P F S K N Q s s' p w w' es dk:=by
 unfold Out at h⊢;rw[e,e'];rcases h with h|⟨c2,n2,w2,Po,es2,fs,k1,k2,k3⟩
 .exact .inl h
 .rw[hm.size,hm.my,pD]at k2 k3;refine .inr ⟨c+c2,n+n2,w2,Po,es2,gs++fs,hm.trans k1,λx hx=>?_,?_⟩
  .rcases Array.mem_append.1 hx with hx|hx
   .refine(hg x hx).mono ?_;rw[<-pD];exact fG _ _ _ _
   .exact k2 x hx
  .rw[<-Array.append_assoc];exact k3
def tF.sound {Q:Pi->α->β->Prop}:∀(s:Sem α) {s':Sem β} {p:Pi},tF P F S K N Q s s' p->∀(w w':World) (es dk:Array Event) (m:Nat),WR P S K N p w w'->
 (∀j,j<m->∀q,w.tape (w.drawn+j) q=w'.tape (w'.drawn+j) q)->(world (s'.runT (ae P F) w' dk).1).drawn<=w'.drawn+m->Out P F S K N Q s s' p w w' es dk:=by
 intro s;induction s with
 |pure a=>
  intro s' p h w w' es dk m hw hm hd;cases s'<;>first|exact h.elim|skip
  refine .inr ⟨0,0,w,w',es,#[],cQ.refl hw,by simp,.inl ⟨_,_,rfl,by simp only[Sem.runT,Array.append_empty];rfl,by rw[bN];exact h⟩⟩
 |load md a k ih=>
  intro s' p h w w' es dk m hw hm hd;cases s'<;>first|exact h.elim|skip
  rename_i md' a' k';obtain⟨rfl,rfl,ha,hk⟩:=h;cases hv:w.cell? a with
  |none=>
   obtain⟨x,hx,SQ,hf,_⟩:=hw.Ux (P:=P) ha "load: no such cell";exact .inl ⟨_,w,es,by simp only[Sem.runT,hv,hf],hx▸SQ⟩
  |some v=>
   obtain⟨v',qY,hr⟩:=hw.cell ha hv;have e':(Sem.load .plain a' k').runT (ae P F) w' dk=(k' v').runT (ae P F) w' (dk++#[⟨.cell a',false,false⟩]):=by simp only[Sem.runT,qY,pE];rfl
   have e:(Sem.load .plain a k).runT P w es=(k v).runT P w (es.push ⟨.cell a,false,false⟩):=by simp only[Sem.runT,hv];rfl
   refine Out.head e e' (cQ.refl hw) ?_ (by rw[bN];exact ih v (hk v v' hr) w w' _ _ m hw hm (by rw[<-e'];exact hd));intro x hx;have:x=⟨.cell a',false,false⟩:=by simpa using hx
   subst this;exact .inr ⟨rfl,a.block,a'.block,.inl ha.1,.inl ⟨a',rfl,rfl⟩,λy=>by cases y⟩
 |store md a v k ih=>
  intro s' p h w w' es dk m hw hm hd;cases s'<;>first|exact h.elim|skip
  rename_i md' a' v' k';obtain⟨rfl,rfl,ha,hvr,hk⟩:=h;cases GU:dY v with
  |false=>obtain⟨x,hx,SQ⟩:=jZ P .plain a v k w es GU;exact .inl ⟨x,w,es,hx,SQ⟩
  |true=>
   have Uy:dY v'=true:=by rw[<-hvr.dY];exact GU
   have e:=cY P .plain a v k w es GU;cases hv:w.cell? a with
   |none=>
    obtain⟨x,hx,SQ,_,hf⟩:=hw.Ux (P:=P) ha "store: no such cell";rw[hv]at e;simp only[hf]at e;exact .inl ⟨_,w,es,e,hx▸SQ⟩
   |some u=>
    rw[hv]at e;simp only at e;by_cases hz:w.frozen? a=true
    .simp only[hz,if_true]at e;exact .inl ⟨_,w,es,e,trivial⟩
    .simp only[hz,Bool.false_eq_true,if_false]at e;obtain⟨u',qY,_⟩:=hw.cell ha hv;obtain⟨o,o',h1,h2,h3⟩:=hw.blk _ _ ha.1
     have bQ:N<=a.block/\w'.frozen? a'=false:=by
      rcases h3 with⟨_,c,c',el,fz,rfl,rfl,hc⟩|⟨By,hc⟩
      .exfalso;apply hz;unfold World.frozen?;unfold World.cell? at hv;rw[h1]at hv⊢;simp only at hv⊢;split at hv
       .cases hv
       .have:=(Array.getElem?_eq_some_iff.1 hv).1;simp[this]
      .refine⟨By,?_⟩;unfold World.frozen? at hz⊢;rw[h1]at hz;rw[h2];cases hc with
       |cM hl=>rw[hw.str]at hl;cases hl
       |cells=>simp only[ha.2.1]at hz;simpa using hz
       |_=>rfl
     have e':=cY (ae P F) .plain a' v' k' w' dk Uy;rw[qY]at e';simp only[bQ.2,Bool.false_eq_true,if_false]at e';have e2:(Sem.store .plain a' v' k').runT (ae P F) w' dk=k'.runT (ae P F) (w'.setCell a' v') (dk++#[⟨.cell a',true,false⟩]):=by rw[e',pE];rfl
     have GW:cQ P S K N p w w' 0 0 (w.setCell a v) (w'.setCell a' v'):=
      ⟨by rw[bN];exact hw.setCell ha hvr bQ.1,by simp[World.setCell],by simp[World.setCell],rfl,rfl,rfl,rfl,rfl,rfl,λr' sb ho=>by
        have:a'.block≠r':=λx=>by have:=ho a.block (x▸ha.1);omega
        simp[World.setCell,Array.getElem?_modify,this]⟩
     refine Out.head e e2 GW ?_ (by rw[bN];exact ih hk (w.setCell a v) (w'.setCell a' v') _ _ m (hw.setCell ha hvr bQ.1) hm (by rw[<-e2];exact hd));intro x hx;have:x=⟨.cell a',true,false⟩:=by simpa using hx
     subst this;exact .inr ⟨rfl,a.block,a'.block,.inl ha.1,.inl ⟨a',rfl,rfl⟩,λ_=>bQ.1⟩
 |new o k ih=>
  intro s' p h w w' es dk m hw hm hd;cases s'<;>first|exact h.elim|skip
  rename_i o' k';obtain⟨ho,_,hk⟩:=h
  have GW:cQ P S K N p w w' 1 0 {w with heap:=w.heap.push o} {w' with heap:=w'.heap.push o'}:=
   ⟨hw.push ho,by simp,by simp,rfl,rfl,rfl,rfl,rfl,rfl,λr' sb _=>by simp[Array.getElem?_push,Nat.ne_of_lt sb]⟩
  refine Out.head (gs:=#[]) (t:=k w.heap.size) (t':=k' w'.heap.size) (es1:=es) rfl (by simp[-Sem.runT_eq,Sem.runT]) GW (by simp) ?_;exact ih _ (hk _ _ _ (fG p _ _ _) (hw.push ho).ok (.inr ⟨0,by omega,rfl,rfl⟩) hw.low (hw.wG _)) _ _ _ _ m (hw.push ho) hm (by simpa [-Sem.runT_eq,Sem.runT]using hd)
 |shape r k ih=>
  intro s' p h w w' es dk m hw hm hd;rcases h with h|⟨r',k',rfl,hr,hk⟩
  .exact h.out hw
  have hs:w'.shape? r'=w.shape? r:=by
   obtain⟨o,o',h1,h2,h3⟩:=hw.blk _ _ hr;unfold World.shape?;rw[h1,h2];rcases h3 with⟨_,c,c',e,fz,rfl,rfl,hc⟩|⟨_,hc⟩
   .simp[hc.1]
   .cases hc with
    |cells e fz _ hc=>simp[hc.1]
    |cM hl=>rw[hw.str]at hl;cases hl
    |_=>rfl
  refine Out.head (gs:=#[]) (t:=k (w.shape? r)) (t':=k' (w.shape? r)) (es1:=es) rfl (by simp[-Sem.runT_eq,Sem.runT,hs]) (cQ.refl hw) (by simp) ?_;rw[bN];exact ih _ (hk _) _ _ _ _ m hw hm (by simpa [-Sem.runT_eq,Sem.runT,hs]using hd)
 |freeze a n k ih=>
  intro s' p h w w' es dk m hw hm hd;rcases h with h|⟨a',k',rfl,ha,hN,hk⟩
  .rw[hw.str]at h;cases h
  have iO:=hw.freeze ha n hN
  have cr:∀(v:World) (b:Addr),(v.freeze b n).heap.size=v.heap.size/\(v.freeze b n).drawn=v.drawn/\(v.freeze b n).tape=v.tape/\(v.freeze b n).os=v.os/\(v.freeze b n).output=v.output:=λv b=>by
   unfold World.freeze;split<;>simp
  have GW:cQ P S K N p w w' 0 0 (w.freeze a n) (w'.freeze a' n):=
   ⟨by rw[bN];exact iO,(cr w a).1,(cr w' a').1,(cr w a).2.1,(cr w' a').2.1,(cr w a).2.2.1,(cr w' a').2.2.1,(cr w' a').2.2.2.1,(cr w' a').2.2.2.2,λr' sb ho=>by
     have:a'.block≠r':=λx=>by have:=ho a.block (x▸ha.1);omega
     unfold World.freeze;split
     .rfl
     .simp[Array.getElem?_modify,this]⟩
  refine Out.head (gs:=#[]) (t:=k) (t':=k') (es1:=es) rfl (by simp[-Sem.runT_eq,Sem.runT]) GW (by simp) ?_;rw[bN];exact ih hk _ _ _ _ m iO (λj hj q=>by rw[(cr w a).2.1,(cr w a).2.2.1,(cr w' a').2.1,(cr w' a').2.2.1];exact hm j hj q) (by rw[(cr w' a').2.1];simpa [-Sem.runT_eq,Sem.runT]using hd)
 |frozen a k ih=>
  intro s' p h w w' es dk m hw hm hd;exact h.out hw
 |getObj r k ih=>
  intro s' p h w w' es dk m hw hm hd;cases s'<;>first|exact h.elim|skip
  rename_i r' k';obtain⟨hr,hk⟩:=h;obtain⟨o,o',h1,h2,h3⟩:=hw.blk _ _ hr
  have oF:∀c e fz,o=.cells c e fz->Out P F S K N Q (Sem.getObj r k) (Sem.getObj r' k') p w w' es dk:=λc e fz ho=>by
   subst ho;exact .inl ⟨.stuck "getObj: a row of cells",w,es,by simp only[Sem.runT,h1],trivial⟩
  rcases h3 with⟨_,c,c',e,fz,ho,_⟩|⟨_,sZ⟩
  .exact oF _ _ _ ho
  .by_cases hl:∃c e fz,o=.cells c e fz
   .obtain⟨c,e,fz,ho⟩:=hl;exact oF _ _ _ ho
   .have Lj:∀c e fz,o≠ .cells c e fz:=λc e fz ho=>hl ⟨c,e,fz,ho⟩;have YJ:∀c e fz,o'≠ .cells c e fz:=by cases sZ<;>first|exact absurd rfl (Lj _ _ _)|(exact λ_ _ _ h=>(by cases h))
    have hc:o.isChan=false/\o'.isChan=false:=by cases sZ<;>exact⟨rfl,rfl⟩
    have e:(Sem.getObj r k).runT P w es=(k o).runT P w (es.push ⟨.obj r,false,false⟩):=by
     simp only[Sem.runT,h1];cases o<;>first|exact absurd rfl (Lj _ _ _)|(cases hc.1;done)|rfl
    have e':(Sem.getObj r' k').runT (ae P F) w' dk=(k' o').runT (ae P F) w' (dk++#[⟨.obj r',false,false⟩]):=by
     simp only[Sem.runT,h2,<-pE];cases o'<;>first|exact absurd rfl (YJ _ _ _)|(cases hc.2;done)|rfl
    refine Out.head e e' (cQ.refl hw) ?_ (by rw[bN];exact ih o (hk o o' sZ) w w' _ _ m hw hm (by rw[<-e'];exact hd));intro x hx;have:x=⟨.obj r',false,false⟩:=by simpa using hx
    subst this;exact .inr ⟨rfl,r,r',.inl hr,.inr rfl,λy=>by cases y⟩
 |setObj r x k ih=>
  intro s' p h w w' es dk m hw hm hd;cases s'<;>first|exact h.elim|skip
  rename_i r' x' k';obtain⟨hr,hx,_,hk⟩:=h;obtain⟨o,o',h1,h2,h3⟩:=hw.blk _ _ hr
  have oF:∀c e fz,o=.cells c e fz->Out P F S K N Q (Sem.setObj r x k) (Sem.setObj r' x' k') p w w' es dk:=λc e fz ho=>by
   subst ho;exact .inl ⟨.stuck "setObj: a row of cells",w,es,by simp only[Sem.runT,h1],trivial⟩
  rcases h3 with⟨_,c,c',e,fz,ho,_⟩|⟨By,sZ⟩
  .exact oF _ _ _ ho
  .by_cases hl:∃c e fz,o=.cells c e fz
   .obtain⟨c,e,fz,ho⟩:=hl;exact oF _ _ _ ho
   .have Lj:∀c e fz,o≠ .cells c e fz:=λc e fz ho=>hl ⟨c,e,fz,ho⟩;have YJ:∀c e fz,o'≠ .cells c e fz:=by cases sZ<;>first|exact absurd rfl (Lj _ _ _)|(exact λ_ _ _ h=>(by cases h))
    have hc:x.isChan=false/\x'.isChan=false:=by cases hx<;>exact⟨rfl,rfl⟩
    have e:(Sem.setObj r x k).runT P w es=k.runT P {w with heap:=w.heap.setIfInBounds r x} (es.push ⟨.obj r,true,x.isChan⟩):=by
     simp only[Sem.runT,h1]
    have e':(Sem.setObj r' x' k').runT (ae P F) w' dk=k'.runT (ae P F) {w' with heap:=w'.heap.setIfInBounds r' x'} (dk++#[⟨.obj r',true,false⟩]):=by
     simp only[Sem.runT,h2,hc.2,<-pE]
    have iO:=hw.setObj hr hx By
    have GW:cQ P S K N p w w' 0 0 {w with heap:=w.heap.setIfInBounds r x} {w' with heap:=w'.heap.setIfInBounds r' x'}:=
     ⟨by rw[bN];exact iO,by simp,by simp,rfl,rfl,rfl,rfl,rfl,rfl,λs hs ho=>by
       have:r'≠s:=λy=>by have:=ho r (y▸hr);omega
       simp[this]⟩
    refine Out.head e e' GW ?_ (by rw[bN];exact ih hk _ _ _ _ m iO hm (by rw[<-e'];exact hd));intro y hy;have:y=⟨.obj r',true,false⟩:=by simpa using hy
    subst this;exact .inr ⟨rfl,r,r',.inl hr,.inr rfl,λ_=>By⟩
 |choose q k ih=>
  intro s' p h w w' es dk m hw hm hd;rcases h with h|⟨k',rfl,hk⟩
  .rw[hw.str]at h;cases h
  by_cases hq:q.forced=true
  .refine Out.head (gs:=#[]) (t:=k 0) (t':=k' 0) (es1:=es) (by simp[-Sem.runT_eq,Sem.runT,hq]) (by simp[-Sem.runT_eq,Sem.runT,hq]) (cQ.refl hw) (by simp) ?_;rw[bN];exact ih _ (hk _) _ _ _ _ m hw hm (by simpa [-Sem.runT_eq,Sem.runT,hq]using hd)
  .simp only[Sem.runT,hq,Bool.false_eq_true,if_false]at hd;have hdr:=oE (ae P F) (k' (q.cut (w'.tape w'.drawn q))) {w' with drawn:=w'.drawn+1} dk;simp only at hdr;have I8:0<m:=by omega
   have ht:=hm 0 I8 q;simp only[Nat.add_zero]at ht;have iO:WR P S K N p {w with drawn:=w.drawn+1} {w' with drawn:=w'.drawn+1}:=⟨hw.inj,hw.blk,hw.low,hw.fix,hw.gE,hw.kq,hw.str,hw.wG⟩
   have GW:cQ P S K N p w w' 0 1 {w with drawn:=w.drawn+1} {w' with drawn:=w'.drawn+1}:=
    ⟨by rw[bN];exact iO,rfl,rfl,rfl,rfl,rfl,rfl,rfl,rfl,λ_ _ _=>rfl⟩
   refine Out.head (gs:=#[]) (t:=k (q.cut (w.tape w.drawn q))) (t':=k' (q.cut (w.tape w.drawn q))) (es1:=es) (by simp[-Sem.runT_eq,Sem.runT,hq]) (by simp[-Sem.runT_eq,Sem.runT,hq,ht]) GW (by simp) ?_;rw[bN];refine ih _ (hk _) _ _ _ _ (m-1) iO (λj hj q'=>?_) (by simp only[ht,Array.append_empty];omega);have:=hm (j+1) (by omega) q';simp only;rw[show w.drawn+1+j=w.drawn+(j+1) by omega,show w'.drawn+1+j=w'.drawn+(j+1) by omega];exact this
 |sys c k ih=>intro s' p h w w' es dk m hw;have h:p.l=true:=h;rw[hw.str]at h;cases h
 |program k ih=>
  intro s' p h w w' es dk m hw hm hd;rcases h with h|⟨k',rfl,h⟩
  .exact h.out hw
  refine Out.head (gs:=#[]) (t:=k P) (t':=k' (ae P F)) (es1:=es) rfl (by simp[-Sem.runT_eq,Sem.runT]) (cQ.refl hw) (by simp) ?_;rw[bN];exact ih _ h _ _ _ _ m hw hm (by simpa [-Sem.runT_eq,Sem.runT]using hd)
 |mark mk k ih=>
  intro s' p h w w' es dk m hw hm hd;rcases h with⟨h,_⟩|h|⟨rfl,k',rfl,hk⟩
  .rw[hw.str]at h;cases h
  .exact h.out hw
  refine Out.head (gs:=#[noRoomEvent]) (t:=k) (t':=k') (es1:=es.push noRoomEvent) rfl (by simp[-Sem.runT_eq,Sem.runT,noRoomEvent]) (cQ.refl hw) (λx hx=>.inl (by simpa using hx)) ?_;rw[bN];exact ih hk _ _ _ _ m hw hm (by simpa [-Sem.runT_eq,Sem.runT,noRoomEvent]using hd)
 |halt x=>
  intro s' p h w w' es dk m hw hm hd;rcases h with h|h|⟨v,v',rfl,rfl,hr⟩
  .rw[hw.str]at h;cases h
  .exact .inl ⟨x,w,es,rfl,h⟩
  .exact .inr ⟨0,0,w,w',es,#[],cQ.refl hw,by simp,.inr ⟨v,v',rfl,by simp[-Sem.runT_eq,Sem.runT],by rw[bN];exact hr⟩⟩
def SR.sound {Q:Pi->α->β->Prop} {s:Sem α} {s':Sem β} {p:Pi} (h:SR P F S K N Q s s' p) (w w':World) (es dk:Array Event) (m:Nat) (hw:WR P S K N p w w')
 (hm:∀j,j<m->∀q,w.tape (w.drawn+j) q=w'.tape (w'.drawn+j) q) (hd:(world (s'.runT (ae P F) w' dk).1).drawn<=w'.drawn+m):Out P F S K N Q s s' p w w' es dk:=
 tF.sound s (h hw.ok) w w' es dk m hw hm hd
end
def bz (P:Program):Prop:=∀t i v,P.info? t=some i->i.zero=some v->plain 50 v=true
section
variable (P:Program) (F:Array Func)
def kU (t:TypeId):(ae P F).info? t=P.info? t:=rfl
def dF (t:TypeId):(ae P F).underlying t=P.underlying t:=rfl
def td (t:TypeId):(ae P F).underlyingId t=P.underlyingId t:=rfl
def kr:(ae P F).depth=P.depth:=rfl
def eU (t:TypeId):(ae P F).cellsOf t=P.cellsOf t:=rfl
def eV (t:TypeId):(ae P F).bytesOf t=P.bytesOf t:=rfl
def mA:∀(d:Nat) (t:TypeId),(ae P F).eqGuardType d t=P.eqGuardType d t
 |0,_=>rfl
 |d+1,t=>by
  have ih:=mA d;simp only[Program.eqGuardType,ih];rfl
def Bz:∀(d:Nat) (t u:TypeId),(ae P F).alikeButTags d t u=P.alikeButTags d t u
 |0,_,_=>rfl
 |d+1,t,u=>by
  have ih:=Bz d;simp only[Program.alikeButTags,ih]
def ku (t:TypeId):(ae P F).stoodInHeld t=P.stoodInHeld t:=by
 simp only[Program.stoodInHeld,Program.stoodInAs];have h:∀u v,(ae P F).alikeButTags (ae P F).depth u v=P.alikeButTags P.depth u v:=λu v=>Bz P F _ u v;simp only[h,td];rfl
def dG:∀(d:Nat) (t:TypeId) (o:Nat),byteOfCell (ae P F) d t o=byteOfCell P d t o
 |0,_,_=>rfl
 |d+1,t,o=>by
  have ih:=dG d;simp only[byteOfCell,ih,eU,eV];rfl
def nX:∀(d:Nat) (t:TypeId) (o:Nat),cellOfByte (ae P F) d t o=cellOfByte P d t o
 |0,_,_=>rfl
 |d+1,t,o=>by
  have ih:=nX d;simp only[cellOfByte,ih,eU,eV];rfl
def eW (d:Nat) (t:TypeId) (c o:Nat) (b:Int):cellAtBytes (ae P F) d t c o b=cellAtBytes P d t c o b:=by
 simp only[cellAtBytes,dG,nX,eU,eV];rfl
end
section
variable {P:Program} {F:Array Func} {S:Nat->Bool} {K:Kz} {N:Nat} {p:Pi}
abbrev QV (S:Nat->Bool):Pi->Value->Value->Prop:=λq v v'=>VR S q v v'
abbrev QA (S:Nat->Bool):Pi->Array Value->Array Value->Prop:=λq v v'=>AR S q v v'
abbrev QE (α:Type):Pi->α->α->Prop:=λ_ a b=>a=b
abbrev QN (N:Nat):Pi->Addr->Addr->Prop:=λq a b=>iY q a b/\N<=a.block/\∀k,¬q.x a.block k
abbrev QD:Pi->Addr->Addr->Prop:=λq a b=>iY q a b
def SR.pure {Q:Pi->α->β->Prop} {a:α} {b:β} (h:Q p a b):SR P F S K N Q (Pure.pure a) (Pure.pure b) p:=λ_=>h
def SR.stuck {Q:Pi->α->β->Prop} {x:String} {s':Sem β}:SR P F S K N Q (Go.stuck x:Sem α) s' p:=λ_=>.inr (.inl trivial)
def SR.unsupported {Q:Pi->α->β->Prop} {u:Unsupported} {s':Sem β} (h:∀g,u≠ .initOrder g:=by intro g;exact λh=>by cases h):SR P F S K N Q (Go.unsupported u:Sem α) s' p:=λ_=>.inr (.inl (by cases u<;>first|trivial|exact absurd rfl (h _)))
def SR.goPanic {Q:Pi->α->β->Prop} (h:VR S p v v'):SR P F S K N Q (Go.goPanic v:Sem α) (Go.goPanic v':Sem β) p:=λ_=>.inr (.inr ⟨v,v',rfl,rfl,h⟩)
def SR.choose (q:Question):SR P F S K N (QE Nat) (Go.choose q) (Go.choose q) p:=λ_=>.inr ⟨_,rfl,λ_=>rfl⟩
def SR.load (h:iY p a a'):SR P F S K N (QV S) (Go.load a) (Go.load a') p:=λ_=>⟨rfl,rfl,h,λ_ _ g=>g⟩
def SR.store (h:iY p a a') (g:VR S p v v'):SR P F S K N (QE Unit) (Go.store a v) (Go.store a' v') p:=λ_=>⟨rfl,rfl,h,g,rfl⟩
def SR.newObj (h:OR S K p o o') (hs:p.l=true->jk o o'):SR P F S K N (λq r r'=>q r r'/\N<=r/\∀k,¬q.x r k) (Go.newObj o) (Go.newObj o') p:=λ_=>⟨h,hs,λ_ _ _ _ _ g l n=>⟨g,l,n⟩⟩
def SR.shape (h:p r r'):SR P F S K N (QE (Option (TypeId×Nat))) (Go.shape r) (Go.shape r') p:=λ_=>.inr ⟨_,_,rfl,h,λ_=>rfl⟩
def SR.getObj (h:p r r'):SR P F S K N (λq o o'=>OR S K q o o') (Go.getObj r) (Go.getObj r') p:=λ_=>⟨h,λ_ _ g=>g⟩
def SR.setObj (h:p r r') (g:OR S K p o o') (hs:p.l=true->jk o o'):SR P F S K N (QE Unit) (Go.setObj r o) (Go.setObj r' o') p:=λ_=>⟨h,g,hs,rfl⟩
def SR.askRoom (n:Nat):SR P F S K N (QE Unit) (Go.askRoom n) (Go.askRoom n) p:=by
 unfold Go.askRoom;split
 .exact λ_=>.inr (.inr ⟨rfl,_,rfl,rfl⟩)
 .exact λ_=>rfl
def SR.ite {Q:Pi->α->β->Prop} {c:Prop} [Decidable c] {s t:Sem α} {s' t':Sem β} (h:c->SR P F S K N Q s s' p) (g:¬c->SR P F S K N Q t t' p):SR P F S K N Q (if c then s else t) (if c then s' else t') p:=by
 by_cases hc:c
 .simp only[hc,if_true];exact h hc
 .simp only[hc,if_false];exact g hc
def SR.aD {Q':Pi->γ->δ->Prop} {f:α->Sem γ} {f':α->Sem δ} {s s':Sem α} (h:SR P F S K N (QE α) s s' p) (g:∀q a,Le p q->SR P F S K N Q' (f a) (f' a) q):SR P F S K N Q' (s>>=f) (s'>>=f') p:=
 h.bind λq a b hq e=>by subst e;exact g q a hq
def SR.pF {Q':Pi->γ->δ->Prop} {f:Program->Sem γ} {f':Program->Sem δ} (g:SR P F S K N Q' (f P) (f' (ae P F)) p):SR P F S K N Q' (Go.program>>=f) (Go.program>>=f') p:=λhp=>.inr ⟨_,rfl,g hp⟩
def SR.pG {Q':Pi->γ->δ->Prop} {f:TypeInfo->Sem γ} {f':TypeInfo->Sem δ} (g:∀i,P.info? t=some i->SR P F S K N Q' (f i) (f' i) p):SR P F S K N Q' (Go.typeInfo t>>=f) (Go.typeInfo t>>=f') p:=by
 unfold Go.typeInfo;show SR P F S K N Q' ((Go.program>>=_)>>=f) ((Go.program>>=_)>>=f') p;refine fun hp=>.inr ⟨_,rfl,?_⟩;revert hp;show SR P F S K N Q' (Sem.bind (match P.info? t with|some i=>Pure.pure i|none=>Go.stuck "no such type") f) (Sem.bind (match P.info? t with|some i=>Pure.pure i|none=>Go.stuck "no such type") f') p;cases h:P.info? t with
 |none=>exact SR.stuck (x:= "no such type")
 |some i=>exact g i h
def SR.cN {Q':Pi->γ->δ->Prop} {f:TypeDesc->Sem γ} {f':TypeDesc->Sem δ} (g:∀i,P.underlying t=some i->SR P F S K N Q' (f i) (f' i) p):SR P F S K N Q' (Go.underlying t>>=f) (Go.underlying t>>=f') p:=by
 unfold Go.underlying;refine fun hp=>.inr ⟨_,rfl,?_⟩;revert hp;show SR P F S K N Q' (Sem.bind (match P.underlying t with|some i=>Pure.pure i|none=>Go.stuck "no such type") f) (Sem.bind (match P.underlying t with|some i=>Pure.pure i|none=>Go.stuck "no such type") f') p;cases h:P.underlying t with
 |none=>exact SR.stuck (x:= "no such type")
 |some i=>exact g i h
def SR.zeroValue (hz:bz P) (t:TypeId):SR P F S K N (λq a b=>a=b/\VR S q a b) (Go.zeroValue t) (Go.zeroValue t) p:=by
 unfold Go.zeroValue;refine SR.pG λi hi=>?_;cases h:i.zero with
 |none=>exact SR.unsupported
 |some v=>exact λ_=>⟨rfl,VR.plain 50 v (hz t i v hi h)⟩
def SR.sizeOf (t:TypeId):SR P F S K N (QE Nat) (Go.sizeOf t) (Go.sizeOf t) p:=by
 unfold Go.sizeOf;exact SR.pG λi _=>SR.pure rfl
def SR.isAgg (t:TypeId):SR P F S K N (QE Bool) (Go.isAgg t) (Go.isAgg t) p:=by
 unfold Go.isAgg;refine SR.cN λi _=>?_;cases i<;>exact SR.pure rfl
def SR.loadCellsFrom:∀(n:Nat) {p:Pi} {a a':Addr} (i:Nat) {acc EC:Array Value},iY p a a'->AR S p acc EC->SR P F S K N (QA S) (Go.loadCellsFrom a i n acc) (Go.loadCellsFrom a' i n EC) p
 |0,_,_,_,_,_,_,_,hc=>SR.pure hc
 |n+1,_,_,_,i,_,_,ha,hc=>by
  simp only[Go.loadCellsFrom];refine(SR.load (ha.add i)).bind λq v v' hq hv=>?_;exact SR.loadCellsFrom n (i+1) (ha.mono hq) ((hc.mono hq).push hv)
def SR.loadCells (h:iY p a a') (n:Nat):SR P F S K N (QA S) (Go.loadCells a n) (Go.loadCells a' n) p:=SR.loadCellsFrom n 0 h AR.empty
def SR.storeCells:∀(vs SS:List Value) {p:Pi} {a a':Addr} (i:Nat),iY p a a'->vs.length=SS.length->(∀(j:Nat) v v',vs[j]?=some v->SS[j]?=some v'->VR S p v v')->SR P F S K N (QE Unit) (Go.storeCells a vs i) (Go.storeCells a' SS i) p
 | [],[],_,_,_,_,_,_,_=>SR.pure rfl
 | [],_::_,_,_,_,_,_,hl,_=>by cases hl
 |_::_,[],_,_,_,_,_,hl,_=>by cases hl
 |v::vs,v'::SS,_,_,_,i,ha,hl,hv=>by
  simp only[Go.storeCells];refine(SR.store (ha.add i) (hv 0 v v' rfl rfl)).aD λq _ hq=>?_;exact SR.storeCells vs SS (i+1) (ha.mono hq) (by simpa using hl) λj x x' h1 h2=>(hv (j+1) x x' h1 h2).mono hq
def SR.gi (h:iY p a a') (hx:AR S p xs cW):SR P F S K N (QE Unit) (Go.storeCells a xs.toList) (Go.storeCells a' cW.toList) p:=
 SR.storeCells _ _ 0 h (by simpa using hx.1) λj v v' h1 h2=>hx.2 j v v' (by simpa using h1) (by simpa using h2)
def SR.loadVar (t:TypeId) (h:iY p a a'):SR P F S K N (QV S) (Go.loadVar t a) (Go.loadVar t a') p:=by
 unfold Go.loadVar;refine(SR.isAgg t).aD λq b hq=>?_;have h:=h.mono hq;cases b with
 |true=>
  simp only[if_true];refine(SR.sizeOf t).aD λq n hq=>?_;exact(SR.loadCells (h.mono hq) n).bind λq x x' hq hx=>SR.pure hx.agg
 |false=>exact SR.load h
def SR.storeVar (t:TypeId) (h:iY p a a') (hv:VR S p v v'):SR P F S K N (QE Unit) (Go.storeVar t a v) (Go.storeVar t a' v') p:=by
 unfold Go.storeVar;refine(SR.sizeOf t).aD λq n hq=>?_;have hc:=(hv.mono hq).cells;rw[<-hc.1];split
 .exact SR.stuck
 .exact SR.gi (h.mono hq) hc
def SR.newRow (e:TypeId) (h:AR S p xs cW):SR P F S K N (QN N) (Go.newRow e xs) (Go.newRow e cW) p:=by
 unfold Go.newRow;exact(SR.newObj (.cells e (0,0) (λ_=>Nat.le_refl 0) h) λ_ _ _ _ _ _ _ a b=>by cases a;cases b;exact h.1.symm).bind λq r r' _ hr=>SR.pure ⟨⟨hr.1,rfl,rfl⟩,hr.2⟩
def SR.newVar (e:TypeId) (h:VR S p v v'):SR P F S K N (QN N) (Go.newVar e v) (Go.newVar e v') p:=SR.newRow e h.cells
def SR.part (t:TypeId) (h:AR S p xs cW) (off:Nat):SR P F S K N (QV S) (Go.part t xs off) (Go.part t cW off) p:=by
 unfold Go.part;refine(SR.isAgg t).aD λq b hq=>?_;have h:=h.mono hq;cases b with
 |true=>
  simp only[if_true];exact(SR.sizeOf t).aD λq n hq=>SR.pure ((h.mono hq).extract _ _).agg
 |false=>
  simp only[Bool.false_eq_true,if_false];cases hx:xs[off]? with
  |none=>exact SR.stuck
  |some v=>obtain⟨v',qY,hr⟩:=h.get hx;rw[qY];exact SR.pure hr
def SR.asIntOf (h:VR S p v v'):SR P F S K N (QE (IntKind×Int)) (Go.asIntOf v) (Go.asIntOf v') p:=by
 cases h<;>first|exact SR.pure rfl|exact SR.unsupported|exact SR.stuck
def SR.asInt (h:VR S p v v'):SR P F S K N (QE Int) (Go.asInt v) (Go.asInt v') p:=(SR.asIntOf h).aD λ_ _ _=>SR.pure rfl
def SR.asBool (h:VR S p v v'):SR P F S K N (QE Bool) (Go.asBool v) (Go.asBool v') p:=by
 cases h<;>first|exact SR.pure rfl|exact SR.stuck
def SR.asAgg (h:VR S p v v'):SR P F S K N (QA S) (Go.asAgg v) (Go.asAgg v') p:=by
 cases h<;>first|exact SR.stuck|(rename_i a b;exact SR.pure ⟨a,b⟩)
def SR.runtimePanic {Q:Pi->α->β->Prop} (e:RuntimeError) (h:∀a b c d,e≠ .typeAssertion a b c d) (h2:e≠ .panicNil) (h3:∀t,e≠ .unhashable t):SR P F S K N Q (Go.runtimePanic e:Sem α) (Go.runtimePanic e:Sem β) p:=by
 unfold Go.runtimePanic;refine SR.pF ?_;simp only[kU,dF];cases e with
 |bounds x y s c=>exact SR.goPanic (VR.plain 5 _ (by simp[plain,strVal]))
 |error m=>exact SR.goPanic (VR.plain 5 _ (by simp[plain,strVal]))
 |plain m=>exact SR.goPanic (VR.plain 5 _ (by simp[plain,strVal]))
 |nilDeref=>exact SR.goPanic (VR.plain 5 _ (by simp[plain,strVal]))
 |typeAssertion a b c d=>exact absurd rfl (h a b c d)
 |panicNil=>exact absurd rfl h2
 |unhashable t=>exact absurd rfl (h3 t)
def SR.err {Q:Pi->α->β->Prop} (m:String):SR P F S K N Q (Go.runtimePanic (.error m):Sem α) (Go.runtimePanic (.error m):Sem β) p:=
 SR.runtimePanic _ (λ_ _ _ _ h=>by cases h) (λh=>by cases h) (λ_ h=>by cases h)
def SR.LC {Q:Pi->α->β->Prop} (m:String):SR P F S K N Q (Go.runtimePanic (.plain m):Sem α) (Go.runtimePanic (.plain m):Sem β) p:=
 SR.runtimePanic _ (λ_ _ _ _ h=>by cases h) (λh=>by cases h) (λ_ h=>by cases h)
def SR.nilDeref {Q:Pi->α->β->Prop}:SR P F S K N Q (Go.runtimePanic .nilDeref:Sem α) (Go.runtimePanic .nilDeref:Sem β) p:=
 SR.runtimePanic _ (λ_ _ _ _ h=>by cases h) (λh=>by cases h) (λ_ h=>by cases h)
def SR.boundsPanic {Q:Pi->α->β->Prop} (k:IntKind) (x y:Int) (c:BoundsCode):SR P F S K N Q (Go.boundsPanic k x y c:Sem α) (Go.boundsPanic k x y c:Sem β) p:=by
 have key:∀(q:Pi) (b:Bool),SR P F S K N Q (Go.runtimePanic (.bounds (IntKind.i64.wrap x) y b c):Sem α) (Go.runtimePanic (.bounds (IntKind.i64.wrap x) y b c):Sem β) q:=
  λq b=>SR.runtimePanic _ (λ_ _ _ _ h=>by cases h) (λh=>by cases h) (λ_ h=>by cases h)
 unfold Go.boundsPanic;dsimp only;refine SR.ite (λ_=>?_) (λ_=>?_)
 .refine SR.aD (α:=Bool) ?_ λq b hq=>key q b;exact(SR.choose _).aD (Q':=QE Bool) λq n hq=>SR.pure rfl
 .exact key p _
def SR.asAddr (h:VR S p v v'):SR P F S K N QD (Go.asAddr v) (Go.asAddr v') p:=by
 cases h<;>first|exact SR.stuck|exact SR.nilDeref|(rename_i g;exact SR.pure ⟨g,rfl,rfl⟩)
def SR.sureAddr (h:VR S p v v'):SR P F S K N QD (Instr.sureAddr v) (Instr.sureAddr v') p:=by
 cases h<;>first|exact SR.stuck|(rename_i g;exact SR.pure ⟨g,rfl,rfl⟩)
end
end Go.aC
