/- A part of the proof that BuildWhy returns true. Conditions: none. -/
import Derived.Test.YthmokljbbkcjdaaGreatDoorT13
import Derived.RangeFuncSeq
set_option linter.unusedVariables false
set_option linter.unusedSimpArgs false
section
namespace Go.Proofs.Cz
open Go.RowKit
def Box (w:World) (g:Nat) (t:TypeId) (cs:Array Value):Prop:=w.heap[g]?=some (.cells cs t)
theorem Box.lt {w:World} {g:Nat} {t:TypeId} {cs:Array Value} (h:Box w g t cs):g<w.heap.size:=(Array.getElem?_eq_some_iff.1 h).1
theorem Box.cell {w:World} {g:Nat} {t:TypeId} {cs:Array Value} (h:Box w g t cs) (i:Nat) {v:Value} (hi:cs[i]?=some v):w.cell? ⟨g,i,none⟩=some v:=by
 unfold Box at h
 simp only[World.cell?,h]
 exact hi
theorem Box.warm {w:World} {g:Nat} {t:TypeId} {cs:Array Value} (h:Box w g t cs) (i:Nat):w.frozen? ⟨g,i,none⟩=false:=by
 unfold Box at h
 simp[World.frozen?,h]
theorem Box.new (w:World) (t:TypeId) (cs:Array Value):Box (w.alloc (.cells cs t)) w.heap.size t cs:=World.alloc_heap_new w _
theorem Box.set {w:World} {g:Nat} {t:TypeId} {cs:Array Value} (h:Box w g t cs) (i:Nat) (v:Value):Box (w.setCell ⟨g,i,none⟩ v) g t (cs.setIfInBounds i v):=by
 unfold Box at*
 obtain⟨hlt,hk⟩:=Array.getElem?_eq_some_iff.1 h
 show(w.heap.modify g _)[g]?=_
 rw[Array.getElem?_eq_getElem (by rw[Array.size_modify];exact hlt),Array.getElem_modify_self,hk]
 simp
structure Keep (O:List Nat) (W W':World):Prop where
 os:W'.os=W.os
 tape:W'.tape=W.tape
 output:W'.output=W.output
 size:W.heap.size≤W'.heap.size
 block:∀k,k<W.heap.size→k∉O→W'.heap[k]?=W.heap[k]?
theorem Keep.refl (O:List Nat) (W:World):Keep O W W:=⟨rfl,rfl,rfl,Nat.le_refl _,fun _ _ _=>rfl⟩
theorem Keep.trans {O O':List Nat} {W W1 W2:World} (h:Keep O W W1) (k:Keep O' W1 W2) (hO:∀x∈O',x∈O∨W.heap.size≤x):Keep O W W2:=
 ⟨k.os.trans h.os,k.tape.trans h.tape,k.output.trans h.output,Nat.le_trans h.size k.size,fun i hi hn=>
   (k.block i (Nat.lt_of_lt_of_le hi h.size) (fun hx=>(hO i hx).elim hn (fun hy=>by omega))).trans (h.block i hi hn)⟩
theorem Keep.trans' {O:List Nat} {W W1 W2:World} (h:Keep O W W1) (k:Keep O W1 W2):Keep O W W2:=h.trans k fun _=>.inl
theorem Keep.mono {O O':List Nat} {W W1:World} (h:Keep O W W1) (hO:∀x∈O,x∈O'∨W.heap.size≤x):Keep O' W W1:=(Keep.refl O' W).trans h hO
theorem Keep.of {O:List Nat} {W W':World} (h:Below W.heap.size W W'):Keep O W W':=⟨h.os,h.tape,h.output,h.size,fun k hk _=>h.block k hk⟩
theorem Keep.alloc (O:List Nat) (W:World) (o:Obj):Keep O W (W.alloc o):=.of ((Below.refl _ _).alloc (Nat.le_refl _) _)
theorem Keep.set {O:List Nat} (W:World) {a:Addr} (h:a.block∈O) (v:Value):Keep O W (W.setCell a v):=
 ⟨rfl,rfl,rfl,by simp[World.setCell],fun k _ hn=>Below.heap_setCell _ _ _ _ (fun e=>hn (e▸h))⟩
theorem Keep.putObj {O:List Nat} (W:World) {r:Nat} (h:r∈O) (o:Obj):Keep O W (W.putObj r o):=
 ⟨rfl,rfl,rfl,by simp,fun k _ hn=>World.putObj_heap_other (fun e=>hn (e▸h))⟩
theorem Keep.below {O:List Nat} {W W':World} (h:Keep O W W') {B:Nat} (hO:∀k∈O,B≤k) (hB:B≤W.heap.size):Below B W W':=
 ⟨h.os,h.tape,h.output,h.size,fun k hk=>h.block k (by omega) (fun hx=>by have:=hO k hx;omega)⟩
theorem Keep.box {O:List Nat} {W W':World} (h:Keep O W W') {g:Nat} {t:TypeId} {cs:Array Value} (hb:Box W g t cs) (hg:g∉O):Box W' g t cs:=
 (h.block g hb.lt hg).trans hb
theorem Keep.on {O:List Nat} {W W':World} (h:Keep O W W') {a:Addr} (hl:a.block<W.heap.size) (ha:a.block∉O):W'.cell? a=W.cell? a:=
 World.cell?_of_block (w:=W) (h.block a.block hl ha)
section
variable {α:Type}
def On (J:List α→List Nat→World→Prop) (ms:List α) (O:List Nat) (W W':World):Prop:=∃O',(∀k∈O',k∈O∨W.heap.size≤k)∧J ms O' W'∧Keep O W W'
structure Rounds (P:Program) (B:Nat) (priv:List Nat) (l:Nat) (enc:α→Value) (K:Nat) (J:List α→List Nat→World→Prop) (Jx:World→Prop):Prop where
 stay:∀{ms O W W'},J ms O W→W.heap.size≤W'.heap.size→(∀k∈O,W'.heap[k]?=W.heap[k]?)→J ms O W'
 own:∀{ms O W},J ms O W→∀k∈O,B≤k∧k<W.heap.size∧k∉priv
 yield:∀ms m O W,J ms O W→ms.length<K→YieldAt Fence.wide 0 P l #[enc m] W fun e W'=>
  (e=.returned (.bool true)∧On J (ms++[m]) O W W')∨(e=.returned (.bool false)∧Jx W'∧Keep O W W')
def Ranged (J:List α→List Nat→World→Prop) (Jx:World→Prop) (L:List α) (O:List Nat) (W:World) (e:Ending) (W':World):Prop:=
 (∃v,e=.returned v)∧(On J L O W W'∨(L≠ []∧Jx W'∧Keep O W W'))
def roundEnd (I:List α→List Nat→World→Prop) (Ix:World→Prop) (ms:List α) (O:List Nat) (W:World):Exit→Act→World→Prop
 |.normal,_,W'=>On I ms O W W'
 |.ret,_,W'=>Ix W'∧Keep O W W'
 |_,_,_=>False
set_option maxHeartbeats 1000000 in
theorem wp_range {P:Program} {g:Operand} {ps:Array Tmp} {assign body:Code} {Q:Exit→Act→World→Prop} {a:Act} {w:World}
 {gf:Nat} {lb:Array Value} (hg:a.eval g=.func (.func gf) #[] lb) (eg:∀args w,(callFunc gf args).run P w=.ok (.enter gf args) w)
 {enc:α→Value} (hps:ps.size=1) (L:List α) (B:Nat) (priv:List Nat) (hB:B≤w.heap.size) (hpriv:∀k∈priv,k<w.heap.size)
 (hseq:∀(l:Nat) (W:World) (O:List Nat) (J:List α→List Nat→World→Prop) (Jx:World→Prop),Rounds P B priv l enc L.length J Jx→Keep [] w W→J [] O W→
   Calls P gf (#[.func (.yield l) #[] #[]]++lb) W (Ranged J Jx L O W))
 (I:List α→List Nat→World→Prop) (Ix:World→Prop) (O:List Nat)
 (hstay:∀{ms O W W'},I ms O W→W.heap.size≤W'.heap.size→(∀k∈O,W'.heap[k]?=W.heap[k]?)→I ms O W')
 (hown:∀{ms O W},I ms O W→∀k∈O,B≤k∧k<W.heap.size∧k∉priv)
 (hstayx:∀{W W'},Ix W→(∀k,k<w.heap.size→W'.heap[k]?=W.heap[k]?)→Ix W')
 (h0:I [] O w)
 (Ax:α→Nat→Act→World→Prop)
 (hassign:∀(l:Nat) (ms:List α) (x:α) (O:List Nat) (W:World) (K:Act→World→Prop),I ms O W→(∀a₁ W₁,Keep [] W W₁→Ax x W.heap.size a₁ W₁→K a₁ W₁)→
   assign.wpIn (Fence.wide.inRound l) 0 P (Exit.then K (fun _ _ _=>False)) {tmps:=(ps.zip #[enc x]).foldl (fun t (p,v)=>t.setIfInBounds p v) a.tmps,defers:=[]} W)
 (hAx:∀{x:α} {N:Nat} {a₁:Act} {W W':World},Ax x N a₁ W→W.heap.size≤W'.heap.size→(∀k,N≤k→k<W.heap.size→W'.heap[k]?=W.heap[k]?)→Ax x N a₁ W')
 (hbody:∀(l:Nat) (ms:List α) (x:α) (O:List Nat) (N:Nat) (a₁:Act) (W:World),I ms O W→ms.length<L.length→(∀k∈O,k<N)→N≤W.heap.size→w.heap.size≤N→Ax x N a₁ W→
   body.wpIn (Fence.wide.inRound l) 0 P (roundEnd I Ix (ms++[x]) O W) a₁ W)
 (hdone:∀(D:Nat) (O':List Nat) (W:World),(∀k∈O',k∈O∨w.heap.size≤k)→I L O' W→Keep O w W→W.heap[D]?=some (.deferred (some []))→w.heap.size≤D→
   Q .normal {a with defers:={target:=.collected D,args:=#[]}::a.defers} W)
 (hstop:∀(D:Nat) (W:World),L≠ []→Ix W→Keep O w W→W.heap[D]?=some (.deferred (some []))→w.heap.size≤D→
   Code.ret.wp P Q {a with defers:={target:=.collected D,args:=#[]}::a.defers} W):
 (Code.rangeFunc g ps assign body).wp P Q a w:=by
 refine(wpIn_wide (n:=0)).1 (wpIn_rangeFunc ?_)
 intro fn hfn
 rw[Fence.wide_round]
 obtain⟨rec,hrec⟩:∃rec:LoopState→Option Code→Loop,rec=fun st pe=>{state:=st,pending:=pe,fn,tmps:=a.tmps,params:=ps,assign,body,defers:=w.heap.size}:=⟨_,rfl⟩
 obtain⟨W1,hW1⟩:∃W1,(w.alloc (.deferred (some []))).alloc (.loop (rec .ready none))=W1:=⟨_,rfl⟩
 have hL1:W1.heap[w.heap.size+1]?=some (.loop (rec .ready none)):=by
  rw[←hW1];have:=World.alloc_heap_new (w.alloc (.deferred (some []))) (.loop (rec .ready none));rwa [World.size_alloc]at this
 have hK1:W1.heap[w.heap.size]?=some (.deferred (some [])):=by
  rw[←hW1];exact(Below.heap_alloc _ _ _ (by simp)).trans (World.alloc_heap_new w _)
 have hb1:Below w.heap.size w W1:=by
  rw[←hW1];exact((Below.refl _ w).alloc (Nat.le_refl _) _).alloc (by simp) _
 have hsz1:W1.heap.size=w.heap.size+2:=by rw[←hW1];simp
 have hI1:I [] O W1:=hstay h0 hb1.size fun k hk=>hb1.block k (hown h0 k hk).2.1
 refine⟨w.heap.size+1,[{target:=.collected w.heap.size,args:=#[]}],W1,{target:=.fn (.func gf) lb,args:=#[.func (.yield (w.heap.size+1)) #[] #[]]},W1,gf,
  #[.func (.yield (w.heap.size+1)) #[] #[]]++lb,W1,?_,?_,?_,?_,fun h=>by simp[Fence.wide]at h,?_⟩
 ·rw[←hW1,hrec];exact run_enterLoop_outer _ _ _ _ _
 ·simp only[resolve,hg]
  simp[go_sem]
 ·intro f' _;trivial
 ·simp[invoke,go_sem,eg]
 ·refine callsIn_wide.2 ((hseq (w.heap.size+1) W1 (w.heap.size::(w.heap.size+1)::O)
   (fun ms O' W=>∃O1,O'=w.heap.size::(w.heap.size+1)::O1∧(∀k∈O1,k∈O∨W1.heap.size≤k)∧I ms O1 W∧W.heap[w.heap.size+1]?=some (.loop (rec .ready none))∧W.heap[w.heap.size]?=some (.deferred (some [])))
   (fun W=>Ix W∧W.heap[w.heap.size+1]?=some (.loop (rec .done (some .ret)))∧W.heap[w.heap.size]?=some (.deferred (some [])))
   ⟨?_,?_,?_⟩ (.of hb1) ⟨O,rfl,fun _=>.inl,hI1,hL1,hK1⟩).mono ?_)
  ·rintro ms O' W W' ⟨O1,rfl,hO1,hi,hl,hk⟩ hs hb
   exact⟨O1,rfl,hO1,hstay hi hs fun k h=>hb k (by simp[h]),(hb _ (by simp)).trans hl,(hb _ (by simp)).trans hk⟩
  ·rintro ms O' W ⟨O1,rfl,hO1,hi,hl,hk⟩ k hm
   have hlt:w.heap.size+1<W.heap.size:=(Array.getElem?_eq_some_iff.1 hl).1
   simp only[List.mem_cons]at hm
   rcases hm with rfl|rfl|hm
   ·exact⟨hB,by omega,fun hp=>by have:=hpriv _ hp;omega⟩
   ·exact⟨by omega,hlt,fun hp=>by have:=hpriv _ hp;omega⟩
   ·exact hown hi k hm
  ·rintro ms x O' W ⟨O1,rfl,hO1,hi,hl,hk⟩ hlen
   have hlt:w.heap.size+1<W.heap.size:=(Array.getElem?_eq_some_iff.1 hl).1
   have hn:w.heap.size∉O1∧w.heap.size+1∉O1:=⟨fun h=>by
    rcases hO1 _ h with h|h
    ·have:=(hown h0 _ h).2.1;omega
    ·omega,fun h=>by
    rcases hO1 _ h with h|h
    ·have:=(hown h0 _ h).2.1;omega
    ·omega⟩
   have hy:=run_yield (P:=P) (args:=#[enc x]) hl (by rw[hrec];exact hps.symm)
   rw[hrec]at hy
   refine⟨fn,_,assign,body,hy,roundIn_of_wpIn hfn (hassign _ ms x O1 W _ hi fun a₁ W₁ hkA hx=>?_)⟩
   have hl1:W₁.heap[w.heap.size+1]?=some (.loop (rec .ready none)):=(hkA.block _ hlt (by simp)).trans hl
   have hk1:W₁.heap[w.heap.size]?=some (.deferred (some [])):=(hkA.block _ (by omega) (by simp)).trans hk
   have hlt1:w.heap.size+1<W₁.heap.size:=(Array.getElem?_eq_some_iff.1 hl1).1
   refine⟨_,run_beginRound hl1 (by rw[hrec]),?_⟩
   have hl2:(W₁.putObj (w.heap.size+1) (.loop {rec .ready none with state:=.busy})).heap[w.heap.size+1]?=some (.loop {rec .ready none with state:=.busy}):=World.putObj_heap_same hlt1
   have hk2:(W₁.putObj (w.heap.size+1) (.loop {rec .ready none with state:=.busy})).heap[w.heap.size]?=some (.deferred (some [])):=(World.putObj_heap_other (by omega)).trans hk1
   have hOW:∀k∈O1,k<W.heap.size:=fun k h=>(hown hi k h).2.1
   have hI2:I ms O1 (W₁.putObj (w.heap.size+1) (.loop {rec .ready none with state:=.busy})):=hstay hi (by simpa using hkA.size) fun k h=>
    (World.putObj_heap_other (fun(e:k=w.heap.size+1)=>hn.2 (by rw[←e];exact h))).trans (hkA.block k (hOW k h) (by simp))
   refine wpIn_mono (hbody _ ms x O1 W.heap.size a₁ _ hI2 hlen hOW (by simpa using hkA.size) (by omega) (hAx hx (by simp) fun k h1 _=>World.putObj_heap_other (by omega))) ?_
   have fin:∀(jump:Option Code) (W3:World),Keep O1 (W₁.putObj (w.heap.size+1) (.loop {rec .ready none with state:=.busy})) W3→
    (Instr.endRound (w.heap.size+1) jump).run P W3=.ok (.bool jump.isNone) (W3.putObj (w.heap.size+1) (.loop (rec (if jump.isNone then .ready else .done) jump)))∧
    (W3.putObj (w.heap.size+1) (.loop (rec (if jump.isNone then .ready else .done) jump))).heap[w.heap.size+1]?=some (.loop (rec (if jump.isNone then .ready else .done) jump))∧
    (W3.putObj (w.heap.size+1) (.loop (rec (if jump.isNone then .ready else .done) jump))).heap[w.heap.size]?=some (.deferred (some []))∧
    Keep (w.heap.size::(w.heap.size+1)::O1) W (W3.putObj (w.heap.size+1) (.loop (rec (if jump.isNone then .ready else .done) jump))):=fun jump W3 hk3=>by
    have hl3:=(hk3.block _ (by simpa using hlt1) hn.2).trans hl2
    have:=run_endRound (P:=P) jump hl3
    have hKp:Keep (w.heap.size::(w.heap.size+1)::O1) W (W3.putObj (w.heap.size+1) (.loop (rec (if jump.isNone then .ready else .done) jump))):=
     (((hkA.mono (O':=w.heap.size::(w.heap.size+1)::O1) (by simp)).trans' (Keep.putObj W₁ (by simp) _)).trans hk3 (fun k h=>.inl (by simp[h]))).trans' (Keep.putObj W3 (by simp) _)
    refine⟨by rw[this,hrec],World.putObj_heap_same (Array.getElem?_eq_some_iff.1 hl3).1,(World.putObj_heap_other (by omega)).trans ((hk3.block _ (by simp;omega) hn.1).trans hk2),hKp⟩
   rintro e a3 W3 hp
   cases e with
   |normal=>
    obtain⟨O2,hO2,hi3,hk3⟩:=hp
    obtain⟨hr,hl4,hk4,hkp⟩:=fin none W3 hk3
    simp only[World.putObj_size]at hO2
    have hsz:=hkA.size
    refine⟨_,_,hr,.inl ⟨rfl,w.heap.size::(w.heap.size+1)::O2,?_,⟨O2,rfl,?_,?_,hl4,hk4⟩,hkp⟩⟩
    ·intro k h
     simp only[List.mem_cons]at h⊢
     rcases h with h|h|h
     ·exact .inl (.inl h)
     ·exact .inl (.inr (.inl h))
     ·exact(hO2 k h).elim (fun h=>.inl (.inr (.inr h))) (fun h=>.inr (by omega))
    ·intro k h
     rcases hO2 k h with h|h
     ·exact hO1 k h
     ·exact .inr (by omega)
    ·exact hstay hi3 (by simp) fun k h=>World.putObj_heap_other fun e=>by
      subst e
      rcases hO2 _ h with h|h
      ·exact hn.2 h
      ·omega
   |ret=>
    obtain⟨hx3,hk3⟩:=hp
    obtain⟨hr,hl4,hk4,hkp⟩:=fin (some .ret) W3 hk3
    exact⟨_,_,hr,.inr ⟨rfl,⟨hstayx hx3 fun k h=>World.putObj_heap_other (by omega),hl4,hk4⟩,hkp⟩⟩
   |exit id=>exact hp.elim
   |goto t=>exact hp.elim
   |panic ch=>exact hp.elim
   |outgrown=>exact hp.elim
  ·have hOO:∀x∈w.heap.size::(w.heap.size+1)::O,x∈O∨w.heap.size≤x:=fun x h=>by
    simp only[List.mem_cons]at h
    rcases h with rfl|rfl|h
    ·exact .inr (Nat.le_refl _)
    ·exact .inr (Nat.le_succ _)
    ·exact .inl h
   rintro e W2 ⟨⟨v,rfl⟩,(⟨O',hO',⟨O1,rfl,hO1,hi,hl,hk⟩,hkp⟩|⟨hL,⟨hx,hl,hk⟩,hkp⟩)⟩
   ·have hkp2:Keep O w (W2.putObj (w.heap.size+1) (.loop {rec .ready none with state:=.exhausted})):=
     (((Keep.of hb1).trans hkp hOO).trans (Keep.putObj (O:=[w.heap.size+1]) W2 (by simp) _) (by simp))
    refine⟨none,_,by have:=run_endLoop (P:=P) hl (by rw[hrec];simp);rw[this,hrec],hdone _ O1 _ (fun k h=>(hO1 k h).imp id (fun h=>by omega)) (hstay hi (by simp) fun k h=>World.putObj_heap_other fun e=>?_) hkp2 ((World.putObj_heap_other (by omega)).trans hk) (Nat.le_refl _)⟩
    subst e
    rcases hO1 _ h with h|h
    ·have:=(hown h0 _ h).2.1;omega
    ·omega
   ·have hkp2:Keep O w (W2.putObj (w.heap.size+1) (.loop {rec .done (some .ret)with state:=.exhausted})):=
     (((Keep.of hb1).trans hkp hOO).trans (Keep.putObj (O:=[w.heap.size+1]) W2 (by simp) _) (by simp))
    exact⟨some .ret,_,by have:=run_endLoop (P:=P) hl (by rw[hrec];simp);rw[this,hrec],(wpIn_wide (n:=0)).2 (hstop _ _ hL (hstayx hx fun k h=>World.putObj_heap_other (by omega)) hkp2 ((World.putObj_heap_other (by omega)).trans hk) (Nat.le_refl _))⟩
end
end Go.Proofs.Cz
end
