/- A part. Conditions: none. -/
import Derived.Test.YtehbindidbgacaaGreatDoorT28
import Derived.RangeFuncSeq
set_option linter.all false
set_option maxHeartbeats 8000000
namespace Go.Proofs.Cz
open Go.RowKit
variable {A B W W' W1 W2 w:World} {O O':List Nat} {a0:Value} {cs:Array Value} {e t:TypeId} {g n r:Nat} {l:List Value} {o o':Obj}
def bc (w:World) (g:Nat) (t:TypeId) (cs:Array Value):Prop:=w.heap[g]?=some (.cells cs t)
theorem bc.lt (h:bc w g t cs):g<w.heap.size:=(Array.getElem?_eq_some_iff.1 h).1
theorem bc.cell (h:bc w g t cs) (i:Nat) {v:Value} (hi:cs[i]?=some v):w.cell? ⟨g,i,none⟩=some v:=by
 unfold bc at h;simp only[World.cell?,h];exact hi
theorem bc.et (h:bc w g t cs) (i:Nat):w.frozen? ⟨g,i,none⟩=false:=by
 unfold bc at h;simp[World.frozen?,h]
theorem bc.new (w:World) (t:TypeId) (cs:Array Value):bc (w.alloc (.cells cs t)) w.heap.size t cs:=World.alloc_heap_new w _
theorem bc.set (h:bc w g t cs) (i:Nat) (v:Value):bc (w.setCell ⟨g,i,none⟩ v) g t (cs.setIfInBounds i v):=by
 unfold bc at*;obtain⟨ao,hk⟩:=Array.getElem?_eq_some_iff.1 h;show(w.heap.modify g _)[g]?=_;rw[Array.getElem?_eq_getElem (by rw[Array.size_modify];exact ao),Array.getElem_modify_self,hk];simp
structure ak (O:List Nat) (W W':World):Prop where
 os:W'.os=W.os
 tape:W'.tape=W.tape
 output:W'.output=W.output
 size:W.heap.size<=W'.heap.size
 block:∀k,k<W.heap.size->k∉O->W'.heap[k]?=W.heap[k]?
theorem ak.refl (O:List Nat) (W:World):ak O W W:=⟨rfl,rfl,rfl,Nat.le_refl _,fun _ _ _=>rfl⟩
theorem ak.trans (h:ak O W W1) (k:ak O' W1 W2) (hO:∀x∈O',x∈O\/W.heap.size<=x):ak O W W2:=
 ⟨k.os.trans h.os,k.tape.trans h.tape,k.output.trans h.output,Nat.le_trans h.size k.size,fun i hi hn=>
   (k.block i (Nat.lt_of_lt_of_le hi h.size) (fun hx=>(hO i hx).elim hn (fun hy=>by omega))).trans (h.block i hi hn)⟩
theorem ak.trans' (h:ak O W W1) (k:ak O W1 W2):ak O W W2:=h.trans k fun _=>.inl
theorem ak.mono (h:ak O W W1) (hO:∀x∈O,x∈O'\/W.heap.size<=x):ak O' W W1:=(ak.refl O' W).trans h hO
theorem ak.of (h:Below W.heap.size W W'):ak O W W':=⟨h.os,h.tape,h.output,h.size,fun k hk _=>h.block k hk⟩
theorem ak.alloc (O:List Nat) (W:World) (o:Obj):ak O W (W.alloc o):=.of ((Below.refl _ _).alloc (Nat.le_refl _) _)
theorem ak.set (W:World) {a:Addr} (h:a.block∈O) (v:Value):ak O W (W.setCell a v):=
 ⟨rfl,rfl,rfl,by simp[World.setCell],fun k _ hn=>Below.heap_setCell _ _ _ _ (fun e=>hn (e▸h))⟩
theorem ak.putObj (W:World) (h:r∈O) (o:Obj):ak O W (W.putObj r o):=
 ⟨rfl,rfl,rfl,by simp,fun k _ hn=>World.putObj_heap_other (fun e=>hn (e▸h))⟩
theorem ak.below (h:ak O W W') {B:Nat} (hO:∀k∈O,B<=k) (hB:B<=W.heap.size):Below B W W':=
 ⟨h.os,h.tape,h.output,h.size,fun k hk=>h.block k (by omega) (fun hx=>by have:=hO k hx;omega)⟩
theorem ak.box (h:ak O W W') (hb:bc W g t cs) (hg:g∉O):bc W' g t cs:=
 (h.block g hb.lt hg).trans hb
theorem bnew (h:w.alloc (.cells cs e)=A):Hid (bc A w.heap.size e cs):=by rw[<-h];exact bc.new _ _ _
theorem bnew2 (h:w.alloc (.cells cs e)=A) (k:w.heap.size=n):Hid (bc A n e cs):=by rw[<-k];exact bnew h
theorem knew (h:w.alloc o=A):ak [] w A:=by rw[<-h];exact ak.alloc _ _ _
theorem ak.b {w':World} (h:ak [] w w') (k:n<=w.heap.size):Below n w w':=h.below (by simp) k
theorem wnew (h:w.alloc o=A):Hid (Below w.heap.size w A):=(knew h).b (Nat.le_refl _)
theorem hidk {a b c:World} (h:Hid (Below a.heap.size a b)) (k:ak [] b c):Hid (Below a.heap.size a c):=Below.trans h.out (k.b h.out.size)
theorem wnew2 (h:w.alloc o=A) (k:A.alloc o'=B):Hid (Below w.heap.size w B):=hidk (wnew h) (knew k)
theorem wnew3 {C:World} {Yn:Obj} (h:w.alloc o=A) (k:A.alloc o'=B) (j:B.alloc Yn=C):Hid (Below w.heap.size w C):=hidk (wnew2 h k) (knew j)
theorem bnewk (h:w.alloc (.cells cs e)=A) (k:A.alloc o=B):Hid (bc B w.heap.size e cs):=(knew k).box (bnew h).out (by simp)
theorem bc.c1 (h:bc w r e (List.toArray (a0::l))):w.cell? ⟨r,0,none⟩=some a0:=h.cell 0 rfl
theorem bc.c2 {a1:Value} (h:bc w r e (List.toArray (a0::a1::l))):w.cell? ⟨r,0,none⟩=some a0/\w.cell? ⟨r,1,none⟩=some a1:=⟨h.cell 0 rfl,h.cell 1 rfl⟩
theorem bc.c3 {a1 a2:Value} (h:bc w r e (List.toArray (a0::a1::a2::l))):w.cell? ⟨r,0,none⟩=some a0/\w.cell? ⟨r,1,none⟩=some a1/\w.cell? ⟨r,2,none⟩=some a2:=⟨h.cell 0 rfl,h.cell 1 rfl,h.cell 2 rfl⟩
theorem bc.c4 {a1 a2 a3:Value} (h:bc w r e (List.toArray (a0::a1::a2::a3::l))):w.cell? ⟨r,0,none⟩=some a0/\w.cell? ⟨r,1,none⟩=some a1/\w.cell? ⟨r,2,none⟩=some a2/\w.cell? ⟨r,3,none⟩=some a3:=⟨h.cell 0 rfl,h.cell 1 rfl,h.cell 2 rfl,h.cell 3 rfl⟩
theorem bc.c5 {a1 a2 a3 a4:Value} (h:bc w r e (List.toArray (a0::a1::a2::a3::a4::l))):w.cell? ⟨r,0,none⟩=some a0/\w.cell? ⟨r,1,none⟩=some a1/\w.cell? ⟨r,2,none⟩=some a2/\w.cell? ⟨r,3,none⟩=some a3/\w.cell? ⟨r,4,none⟩=some a4:=⟨h.cell 0 rfl,h.cell 1 rfl,h.cell 2 rfl,h.cell 3 rfl,h.cell 4 rfl⟩
theorem bc.c6 {a1 a2 a3 a4 a5:Value} (h:bc w r e (List.toArray (a0::a1::a2::a3::a4::a5::l))):w.cell? ⟨r,0,none⟩=some a0/\w.cell? ⟨r,1,none⟩=some a1/\w.cell? ⟨r,2,none⟩=some a2/\w.cell? ⟨r,3,none⟩=some a3/\w.cell? ⟨r,4,none⟩=some a4/\w.cell? ⟨r,5,none⟩=some a5:=⟨h.cell 0 rfl,h.cell 1 rfl,h.cell 2 rfl,h.cell 3 rfl,h.cell 4 rfl,h.cell 5 rfl⟩
theorem bc.c7 {a1 a2 a3 a4 a5 a6:Value} (h:bc w r e (List.toArray (a0::a1::a2::a3::a4::a5::a6::l))):w.cell? ⟨r,0,none⟩=some a0/\w.cell? ⟨r,1,none⟩=some a1/\w.cell? ⟨r,2,none⟩=some a2/\w.cell? ⟨r,3,none⟩=some a3/\w.cell? ⟨r,4,none⟩=some a4/\w.cell? ⟨r,5,none⟩=some a5/\w.cell? ⟨r,6,none⟩=some a6:=⟨h.cell 0 rfl,h.cell 1 rfl,h.cell 2 rfl,h.cell 3 rfl,h.cell 4 rfl,h.cell 5 rfl,h.cell 6 rfl⟩
theorem bc.a1 (h:bc w r e (List.toArray (a0::l))):(∀X:aj w,X.1.cell? ⟨r,0,none⟩=some a0):=fun X=>X.cell (h.cell 0 rfl)
theorem bc.a2 {a1:Value} (h:bc w r e (List.toArray (a0::a1::l))):(∀X:aj w,X.1.cell? ⟨r,0,none⟩=some a0)/\(∀X:aj w,X.1.cell? ⟨r,1,none⟩=some a1):=⟨fun X=>X.cell (h.cell 0 rfl),fun X=>X.cell (h.cell 1 rfl)⟩
theorem bc.a3 {a1 a2:Value} (h:bc w r e (List.toArray (a0::a1::a2::l))):(∀X:aj w,X.1.cell? ⟨r,0,none⟩=some a0)/\(∀X:aj w,X.1.cell? ⟨r,1,none⟩=some a1)/\(∀X:aj w,X.1.cell? ⟨r,2,none⟩=some a2):=⟨fun X=>X.cell (h.cell 0 rfl),fun X=>X.cell (h.cell 1 rfl),fun X=>X.cell (h.cell 2 rfl)⟩
theorem bc.a4 {a1 a2 a3:Value} (h:bc w r e (List.toArray (a0::a1::a2::a3::l))):(∀X:aj w,X.1.cell? ⟨r,0,none⟩=some a0)/\(∀X:aj w,X.1.cell? ⟨r,1,none⟩=some a1)/\(∀X:aj w,X.1.cell? ⟨r,2,none⟩=some a2)/\(∀X:aj w,X.1.cell? ⟨r,3,none⟩=some a3):=⟨fun X=>X.cell (h.cell 0 rfl),fun X=>X.cell (h.cell 1 rfl),fun X=>X.cell (h.cell 2 rfl),fun X=>X.cell (h.cell 3 rfl)⟩
theorem bc.a5 {a1 a2 a3 a4:Value} (h:bc w r e (List.toArray (a0::a1::a2::a3::a4::l))):(∀X:aj w,X.1.cell? ⟨r,0,none⟩=some a0)/\(∀X:aj w,X.1.cell? ⟨r,1,none⟩=some a1)/\(∀X:aj w,X.1.cell? ⟨r,2,none⟩=some a2)/\(∀X:aj w,X.1.cell? ⟨r,3,none⟩=some a3)/\(∀X:aj w,X.1.cell? ⟨r,4,none⟩=some a4):=⟨fun X=>X.cell (h.cell 0 rfl),fun X=>X.cell (h.cell 1 rfl),fun X=>X.cell (h.cell 2 rfl),fun X=>X.cell (h.cell 3 rfl),fun X=>X.cell (h.cell 4 rfl)⟩
theorem bc.a6 {a1 a2 a3 a4 a5:Value} (h:bc w r e (List.toArray (a0::a1::a2::a3::a4::a5::l))):(∀X:aj w,X.1.cell? ⟨r,0,none⟩=some a0)/\(∀X:aj w,X.1.cell? ⟨r,1,none⟩=some a1)/\(∀X:aj w,X.1.cell? ⟨r,2,none⟩=some a2)/\(∀X:aj w,X.1.cell? ⟨r,3,none⟩=some a3)/\(∀X:aj w,X.1.cell? ⟨r,4,none⟩=some a4)/\(∀X:aj w,X.1.cell? ⟨r,5,none⟩=some a5):=⟨fun X=>X.cell (h.cell 0 rfl),fun X=>X.cell (h.cell 1 rfl),fun X=>X.cell (h.cell 2 rfl),fun X=>X.cell (h.cell 3 rfl),fun X=>X.cell (h.cell 4 rfl),fun X=>X.cell (h.cell 5 rfl)⟩
theorem bc.a7 {a1 a2 a3 a4 a5 a6:Value} (h:bc w r e (List.toArray (a0::a1::a2::a3::a4::a5::a6::l))):(∀X:aj w,X.1.cell? ⟨r,0,none⟩=some a0)/\(∀X:aj w,X.1.cell? ⟨r,1,none⟩=some a1)/\(∀X:aj w,X.1.cell? ⟨r,2,none⟩=some a2)/\(∀X:aj w,X.1.cell? ⟨r,3,none⟩=some a3)/\(∀X:aj w,X.1.cell? ⟨r,4,none⟩=some a4)/\(∀X:aj w,X.1.cell? ⟨r,5,none⟩=some a5)/\(∀X:aj w,X.1.cell? ⟨r,6,none⟩=some a6):=⟨fun X=>X.cell (h.cell 0 rfl),fun X=>X.cell (h.cell 1 rfl),fun X=>X.cell (h.cell 2 rfl),fun X=>X.cell (h.cell 3 rfl),fun X=>X.cell (h.cell 4 rfl),fun X=>X.cell (h.cell 5 rfl),fun X=>X.cell (h.cell 6 rfl)⟩
section
variable {α:Type}
def On (J:List α->List Nat->World->Prop) (ms:List α) (O:List Nat) (W W':World):Prop:=∃O',(∀k∈O',k∈O\/W.heap.size<=k)/\J ms O' W'/\ak O W W'
structure C6 (P:Program) (B:Nat) (C7:List Nat) (l:Nat) (enc:α->Value) (K:Nat) (J:List α->List Nat->World->Prop) (Jx:World->Prop):Prop where
 stay:∀{ms O W W'},J ms O W->W.heap.size<=W'.heap.size->(∀k∈O,W'.heap[k]?=W.heap[k]?)->J ms O W'
 own:∀{ms O W},J ms O W->∀k∈O,B<=k/\k<W.heap.size/\k∉C7
 yield:∀ms m O W,J ms O W->ms.length<K->YieldAt Fence.wide 0 P l #[enc m] W fun e W'=>
  (e=.returned (.bool true)/\On J (ms++[m]) O W W')\/(e=.returned (.bool false)/\Jx W'/\ak O W W')
def C8 (J:List α->List Nat->World->Prop) (Jx:World->Prop) (L:List α) (O:List Nat) (W:World) (e:Ending) (W':World):Prop:=
 (∃v,e=.returned v)/\(On J L O W W'\/(L≠ []/\Jx W'/\ak O W W'))
def C9 (I:List α->List Nat->World->Prop) (Ix:World->Prop) (ms:List α) (O:List Nat) (W:World):Exit->Act->World->Prop
 |.normal,_,W'=>On I ms O W W'
 |.ret,_,W'=>Ix W'/\ak O W W'
 |_,_,_=>False
theorem Ap {P:Program} {g:Operand} {ps:Array Tmp} {assign body:Code} {Q:Exit->Act->World->Prop} {a:Act}
 {gf:Nat} {fs lb:Array Value} (hg:a.eval g=.func (.func gf) fs lb) (eg:∀args w,(callFunc gf args).run P w=.ok (.enter gf args) w)
 {enc:α->Value} (wd:ps.size=1) (L:List α) (B:Nat) (C7:List Nat) (hB:B<=w.heap.size) (H5:∀k∈C7,k<w.heap.size)
 (SJ:∀(l:Nat) (W:World) (O:List Nat) (J:List α->List Nat->World->Prop) (Jx:World->Prop),C6 P B C7 l enc L.length J Jx->ak [] w W->J [] O W->
   Calls P gf (fs++#[.func (.yield l) #[] #[]]++lb) W (C8 J Jx L O W))
 (I:List α->List Nat->World->Prop) (Ix:World->Prop) (O:List Nat)
 (uY:∀{ms O W W'},I ms O W->W.heap.size<=W'.heap.size->(∀k∈O,W'.heap[k]?=W.heap[k]?)->I ms O W')
 (cr:∀{ms O W},I ms O W->∀k∈O,B<=k/\k<W.heap.size/\k∉C7)
 (Da:∀{W W'},Ix W->(∀k,k<w.heap.size->W'.heap[k]?=W.heap[k]?)->Ix W')
 (h0:I [] O w)
 (Ax:α->Nat->Act->World->Prop)
 (FS:∀(l:Nat) (ms:List α) (x:α) (O:List Nat) (W:World) (K:Act->World->Prop),I ms O W->(∀a₁ W₁,ak [] W W₁->Ax x W.heap.size a₁ W₁->K a₁ W₁)->
   assign.wpIn (Fence.wide.inRound l) 0 P (Exit.then K (fun _ _ _=>False)) {tmps:=(ps.zip #[enc x]).foldl (fun t (p,v)=>t.setIfInBounds p v) a.tmps,defers:=[]} W)
 (Yo:∀{x:α} {N:Nat} {a₁:Act} {W W':World},Ax x N a₁ W->W.heap.size<=W'.heap.size->(∀k,N<=k->k<W.heap.size->W'.heap[k]?=W.heap[k]?)->Ax x N a₁ W')
 (io:∀(l:Nat) (ms:List α) (x:α) (O:List Nat) (N:Nat) (a₁:Act) (W:World),I ms O W->ms.length<L.length->(∀k∈O,k<N)->N<=W.heap.size->w.heap.size<=N->Ax x N a₁ W->
   body.wpIn (Fence.wide.inRound l) 0 P (C9 I Ix (ms++[x]) O W) a₁ W)
 (NI:∀(D:Nat) (O':List Nat) (W:World),(∀k∈O',k∈O\/w.heap.size<=k)->I L O' W->ak O w W->W.heap[D]?=some (.deferred (some []))->w.heap.size<=D->
   Q .normal {a with defers:={target:=.collected D,args:=#[]}::a.defers} W)
 (NJ:∀(D:Nat) (W:World),L≠ []->Ix W->ak O w W->W.heap[D]?=some (.deferred (some []))->w.heap.size<=D->
   Code.ret.wp P Q {a with defers:={target:=.collected D,args:=#[]}::a.defers} W):
 (Code.rangeFunc g ps assign body).wp P Q a w:=by
 refine(wpIn_wide (n:=0)).1 (wpIn_rangeFunc ?_);intro fn pP;rw[Fence.wide_round];obtain⟨rec,sR⟩:∃rec:LoopState->Option Code->Loop,rec=fun st pe=>{state:=st,pending:=pe,fn,tmps:=a.tmps,params:=ps,assign,body,defers:=w.heap.size}:=⟨_,rfl⟩
 obtain⟨W1,NK⟩:=ex1 ((w.alloc (.deferred (some []))).alloc (.loop (rec .ready none)))
 have Yp:W1.heap[w.heap.size+1]?=some (.loop (rec .ready none)):=by
  rw[<-NK];have:=World.alloc_heap_new (w.alloc (.deferred (some []))) (.loop (rec .ready none));rwa [World.size_alloc]at this
 have Yq:W1.heap[w.heap.size]?=some (.deferred (some [])):=by
  rw[<-NK];exact(Below.heap_alloc _ _ _ (by simp)).trans (World.alloc_heap_new w _)
 have cO:Below w.heap.size w W1:=by
  rw[<-NK];exact((Below.refl _ w).alloc (Nat.le_refl _) _).alloc (by simp) _
 have Nz:W1.heap.size=w.heap.size+2:=by rw[<-NK];simp
 have Yr:I [] O W1:=uY h0 cO.size fun k hk=>cO.block k (cr h0 k hk).2.1
 refine⟨w.heap.size+1,[{target:=.collected w.heap.size,args:=#[]}],W1,{target:=.fn (.func gf) lb,args:=fs++#[.func (.yield (w.heap.size+1)) #[] #[]]},W1,gf,
  fs++#[.func (.yield (w.heap.size+1)) #[] #[]]++lb,W1,?_,?_,?_,?_,fun h=>by simp[Fence.wide]at h,?_⟩
 .rw[<-NK,sR];exact run_enterLoop_outer _ _ _ _ _
 .simp only[resolve,hg];simp[go_sem]
 .intro f' _;trivial
 .simp[invoke,go_sem,eg]
 .refine callsIn_wide.2 ((SJ (w.heap.size+1) W1 (w.heap.size::(w.heap.size+1)::O)
   (fun ms O' W=>∃O1,O'=w.heap.size::(w.heap.size+1)::O1/\(∀k∈O1,k∈O\/W1.heap.size<=k)/\I ms O1 W/\W.heap[w.heap.size+1]?=some (.loop (rec .ready none))/\W.heap[w.heap.size]?=some (.deferred (some [])))
   (fun W=>Ix W/\W.heap[w.heap.size+1]?=some (.loop (rec .done (some .ret)))/\W.heap[w.heap.size]?=some (.deferred (some [])))
   ⟨?_,?_,?_⟩ (.of cO) ⟨O,rfl,fun _=>.inl,Yr,Yp,Yq⟩).mono ?_)
  .rintro ms O' W W' ⟨O1,rfl,FT,hi,hl,hk⟩ hs hb;exact⟨O1,rfl,FT,uY hi hs fun k h=>hb k (by simp[h]),(hb _ (by simp)).trans hl,(hb _ (by simp)).trans hk⟩
  .rintro ms O' W ⟨O1,rfl,FT,hi,hl,hk⟩ k hm;have ao:w.heap.size+1<W.heap.size:=(Array.getElem?_eq_some_iff.1 hl).1;simp only[List.mem_cons]at hm;rcases hm with rfl|rfl|hm
   .exact⟨hB,by omega,fun hp=>by have:=H5 _ hp;omega⟩
   .exact⟨by omega,ao,fun hp=>by have:=H5 _ hp;omega⟩
   .exact cr hi k hm
  .rintro ms x O' W ⟨O1,rfl,FT,hi,hl,hk⟩ hlen;have ao:w.heap.size+1<W.heap.size:=(Array.getElem?_eq_some_iff.1 hl).1
   have hn:w.heap.size∉O1/\w.heap.size+1∉O1:=⟨fun h=>by
    rcases FT _ h with h|h
    .have:=(cr h0 _ h).2.1;omega
    .omega,fun h=>by
    rcases FT _ h with h|h
    .have:=(cr h0 _ h).2.1;omega
    .omega⟩
   have hy:=run_yield (P:=P) (args:=#[enc x]) hl (by rw[sR];exact wd.symm);rw[sR]at hy;refine⟨fn,_,assign,body,hy,roundIn_of_wpIn pP (FS _ ms x O1 W _ hi fun a₁ W₁ Ki hx=>?_)⟩;have K3:W₁.heap[w.heap.size+1]?=some (.loop (rec .ready none)):=(Ki.block _ ao (by simp)).trans hl;have qf:W₁.heap[w.heap.size]?=some (.deferred (some [])):=(Ki.block _ (by omega) (by simp)).trans hk;have Cd:w.heap.size+1<W₁.heap.size:=(Array.getElem?_eq_some_iff.1 K3).1;refine⟨_,run_beginRound K3 (by rw[sR]),?_⟩;have zY:(W₁.putObj (w.heap.size+1) (.loop {rec .ready none with state:=.busy})).heap[w.heap.size+1]?=some (.loop {rec .ready none with state:=.busy}):=World.putObj_heap_same Cd;have mQ:(W₁.putObj (w.heap.size+1) (.loop {rec .ready none with state:=.busy})).heap[w.heap.size]?=some (.deferred (some [])):=(World.putObj_heap_other (by omega)).trans qf;have US:∀k∈O1,k<W.heap.size:=fun k h=>(cr hi k h).2.1
   have Ys:I ms O1 (W₁.putObj (w.heap.size+1) (.loop {rec .ready none with state:=.busy})):=uY hi (by simpa using Ki.size) fun k h=>
    (World.putObj_heap_other (fun(e:k=w.heap.size+1)=>hn.2 (by rw[<-e];exact h))).trans (Ki.block k (US k h) (by simp))
   refine wpIn_mono (io _ ms x O1 W.heap.size a₁ _ Ys hlen US (by simpa using Ki.size) (by omega) (Yo hx (by simp) fun k h1 _=>World.putObj_heap_other (by omega))) ?_
   have fin:∀(jump:Option Code) (W3:World),ak O1 (W₁.putObj (w.heap.size+1) (.loop {rec .ready none with state:=.busy})) W3->
    (Instr.endRound (w.heap.size+1) jump).run P W3=.ok (.bool jump.isNone) (W3.putObj (w.heap.size+1) (.loop (rec (if jump.isNone then .ready else .done) jump)))/\
    (W3.putObj (w.heap.size+1) (.loop (rec (if jump.isNone then .ready else .done) jump))).heap[w.heap.size+1]?=some (.loop (rec (if jump.isNone then .ready else .done) jump))/\
    (W3.putObj (w.heap.size+1) (.loop (rec (if jump.isNone then .ready else .done) jump))).heap[w.heap.size]?=some (.deferred (some []))/\
    ak (w.heap.size::(w.heap.size+1)::O1) W (W3.putObj (w.heap.size+1) (.loop (rec (if jump.isNone then .ready else .done) jump))):=fun jump W3 mX=>by
    have Kj:=(mX.block _ (by simpa using Cd) hn.2).trans zY;have:=run_endRound (P:=P) jump Kj
    have Yt:ak (w.heap.size::(w.heap.size+1)::O1) W (W3.putObj (w.heap.size+1) (.loop (rec (if jump.isNone then .ready else .done) jump))):=
     (((Ki.mono (O':=w.heap.size::(w.heap.size+1)::O1) (by simp)).trans' (ak.putObj W₁ (by simp) _)).trans mX (fun k h=>.inl (by simp[h]))).trans' (ak.putObj W3 (by simp) _)
    refine⟨by rw[this,sR],World.putObj_heap_same (Array.getElem?_eq_some_iff.1 Kj).1,(World.putObj_heap_other (by omega)).trans ((mX.block _ (by simp;omega) hn.1).trans mQ),Yt⟩
   rintro e a3 W3 hp;cases e with
   |normal=>
    obtain⟨O2,FU,M0,mX⟩:=hp;obtain⟨hr,SK,nG,Kk⟩:=fin none W3 mX;simp only[World.putObj_size]at FU;have cb:=Ki.size;refine⟨_,_,hr,.inl ⟨rfl,w.heap.size::(w.heap.size+1)::O2,?_,⟨O2,rfl,?_,?_,SK,nG⟩,Kk⟩⟩
    .intro k h;simp only[List.mem_cons]at h⊢;rcases h with h|h|h
     .exact .inl (.inl h)
     .exact .inl (.inr (.inl h))
     .exact(FU k h).elim (fun h=>.inl (.inr (.inr h))) (fun h=>.inr (by omega))
    .intro k h;rcases FU k h with h|h
     .exact FT k h
     .exact .inr (by omega)
    .exact uY M0 (by simp) fun k h=>World.putObj_heap_other fun e=>by
      subst e;rcases FU _ h with h|h
      .exact hn.2 h
      .omega
   |ret=>
    obtain⟨Yu,mX⟩:=hp;obtain⟨hr,SK,nG,Kk⟩:=fin (some .ret) W3 mX;exact⟨_,_,hr,.inr ⟨rfl,⟨Da Yu fun k h=>World.putObj_heap_other (by omega),SK,nG⟩,Kk⟩⟩
   |exit id=>exact hp.elim
   |goto t=>exact hp.elim
   |panic ch=>exact hp.elim
   |outgrown=>exact hp.elim
  .have UT:∀x∈w.heap.size::(w.heap.size+1)::O,x∈O\/w.heap.size<=x:=fun x h=>by
    simp only[List.mem_cons]at h;rcases h with rfl|rfl|h
    .exact .inr (Nat.le_refl _)
    .exact .inr (Nat.le_succ _)
    .exact .inl h
   rintro e W2 ⟨⟨v,rfl⟩,(⟨O',SL,⟨O1,rfl,FT,hi,hl,hk⟩,Kk⟩|⟨hL,⟨hx,hl,hk⟩,Kk⟩)⟩
   .have Kl:ak O w (W2.putObj (w.heap.size+1) (.loop {rec .ready none with state:=.exhausted})):=
     (((ak.of cO).trans Kk UT).trans (ak.putObj (O:=[w.heap.size+1]) W2 (by simp) _) (by simp))
    refine⟨none,_,by have:=run_endLoop (P:=P) hl (by rw[sR];simp);rw[this,sR],NI _ O1 _ (fun k h=>(FT k h).imp id (fun h=>by omega)) (uY hi (by simp) fun k h=>World.putObj_heap_other fun e=>?_) Kl ((World.putObj_heap_other (by omega)).trans hk) (Nat.le_refl _)⟩;subst e;rcases FT _ h with h|h
    .have:=(cr h0 _ h).2.1;omega
    .omega
   .have Kl:ak O w (W2.putObj (w.heap.size+1) (.loop {rec .done (some .ret)with state:=.exhausted})):=
     (((ak.of cO).trans Kk UT).trans (ak.putObj (O:=[w.heap.size+1]) W2 (by simp) _) (by simp))
    exact⟨some .ret,_,by have:=run_endLoop (P:=P) hl (by rw[sR];simp);rw[this,sR],(wpIn_wide (n:=0)).2 (NJ _ _ hL (Da hx fun k h=>World.putObj_heap_other (by omega)) Kl ((World.putObj_heap_other (by omega)).trans hk) (Nat.le_refl _))⟩
end
end Go.Proofs.Cz
