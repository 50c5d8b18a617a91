/- A part. Conditions: none. -/
import Derived.Test.YtddlcmejelobdaaGreatDoorT26
import Derived.RangeFuncSeq
set_option linter.all false
set_option maxHeartbeats 8000000
namespace Go.Proofs.Cz
open Go.RowKit
variable {A B W W' W1 W2 w:World} {O O':List Nat} {a:Addr} {a0:Value} {cs:Array Value} {e t:TypeId} {g n r:Nat} {l:List Value} {o o':Obj}
def aD (w:World) (g:Nat) (t:TypeId) (cs:Array Value):Prop:=w.heap[g]?=some (.cells cs t)
theorem aD.lt (h:aD w g t cs):g<w.heap.size:=(Array.getElem?_eq_some_iff.1 h).1
theorem aD.cell (h:aD w g t cs) (i:Nat) {v:Value} (hi:cs[i]?=some v):w.cell? ⟨g,i,none⟩=some v:=by
 unfold aD at h;simp only[World.cell?,h];exact hi
theorem aD.cz (h:aD w g t cs) (i:Nat):w.frozen? ⟨g,i,none⟩=false:=by
 unfold aD at h;simp[World.frozen?,h]
theorem aD.new (w:World) (t:TypeId) (cs:Array Value):aD (w.alloc (.cells cs t)) w.heap.size t cs:=World.alloc_heap_new w _
theorem aD.set (h:aD w g t cs) (i:Nat) (v:Value):aD (w.setCell ⟨g,i,none⟩ v) g t (cs.setIfInBounds i v):=by
 unfold aD at*;obtain⟨ar,hk⟩:=Array.getElem?_eq_some_iff.1 h;show(w.heap.modify g _)[g]?=_;rw[Array.getElem?_eq_getElem (by rw[Array.size_modify];exact ar),Array.getElem_modify_self,hk];simp
structure aa (O:List Nat) (W W':World):Prop where
 os:W'.os=W.os
 tape:W'.tape=W.tape
 output:W'.output=W.output
 size:W.heap.size<=W'.heap.size
 block:∀k,k<W.heap.size->k∉O->W'.heap[k]?=W.heap[k]?
theorem aa.refl (O:List Nat) (W:World):aa O W W:=⟨rfl,rfl,rfl,Nat.le_refl _,fun _ _ _=>rfl⟩
theorem aa.trans (h:aa O W W1) (k:aa O' W1 W2) (hO:∀x∈O',x∈O\/W.heap.size<=x):aa O W W2:=
 ⟨k.os.trans h.os,k.tape.trans h.tape,k.output.trans h.output,Nat.le_trans h.size k.size,fun i hi hn=>
   (k.block i (Nat.lt_of_lt_of_le hi h.size) (fun hx=>(hO i hx).elim hn (fun hy=>by omega))).trans (h.block i hi hn)⟩
theorem aa.trans' (h:aa O W W1) (k:aa O W1 W2):aa O W W2:=h.trans k fun _=>.inl
theorem aa.mono (h:aa O W W1) (hO:∀x∈O,x∈O'\/W.heap.size<=x):aa O' W W1:=(aa.refl O' W).trans h hO
theorem aa.of (h:Below W.heap.size W W'):aa O W W':=⟨h.os,h.tape,h.output,h.size,fun k hk _=>h.block k hk⟩
theorem aa.alloc (O:List Nat) (W:World) (o:Obj):aa O W (W.alloc o):=.of ((Below.refl _ _).alloc (Nat.le_refl _) _)
theorem aa.set (W:World) (h:a.block∈O) (v:Value):aa O W (W.setCell a v):=
 ⟨rfl,rfl,rfl,by simp[World.setCell],fun k _ hn=>Below.heap_setCell _ _ _ _ (fun e=>hn (e▸h))⟩
theorem aa.putObj (W:World) (h:r∈O) (o:Obj):aa O W (W.putObj r o):=
 ⟨rfl,rfl,rfl,by simp,fun k _ hn=>World.putObj_heap_other (fun e=>hn (e▸h))⟩
theorem aa.below (h:aa O W W') {B:Nat} (hO:∀k∈O,B<=k) (hB:B<=W.heap.size):Below B W W':=
 ⟨h.os,h.tape,h.output,h.size,fun k hk=>h.block k (by omega) (fun hx=>by have:=hO k hx;omega)⟩
theorem aa.box (h:aa O W W') (hb:aD W g t cs) (hg:g∉O):aD W' g t cs:=
 (h.block g hb.lt hg).trans hb
theorem aa.on (h:aa O W W') (hl:a.block<W.heap.size) (ha:a.block∉O):W'.cell? a=W.cell? a:=
 World.cell?_of_block (w:=W) (h.block a.block hl ha)
theorem bnew (h:w.alloc (.cells cs e)=A):Hid (aD A w.heap.size e cs):=by rw[<-h];exact aD.new _ _ _
theorem bnew2 (h:w.alloc (.cells cs e)=A) (k:w.heap.size=n):Hid (aD A n e cs):=by rw[<-k];exact bnew h
theorem knew (h:w.alloc o=A):aa [] w A:=by rw[<-h];exact aa.alloc _ _ _
theorem aa.b {w':World} (h:aa [] w w') (k:n<=w.heap.size):Below n w w':=h.below (by simp) k
theorem wnew (h:w.alloc o=A):Hid (Below w.heap.size w A):=(knew h).b (Nat.le_refl _)
theorem hidk {a b c:World} (h:Hid (Below a.heap.size a b)) (k:aa [] b c):Hid (Below a.heap.size a c):=Below.trans h.out (k.b h.out.size)
theorem wnew2 (h:w.alloc o=A) (k:A.alloc o'=B):Hid (Below w.heap.size w B):=hidk (wnew h) (knew k)
theorem wnew3 {C:World} {o'':Obj} (h:w.alloc o=A) (k:A.alloc o'=B) (j:B.alloc o''=C):Hid (Below w.heap.size w C):=hidk (wnew2 h k) (knew j)
theorem bnewk (h:w.alloc (.cells cs e)=A) (k:A.alloc o=B):Hid (aD B w.heap.size e cs):=(knew k).box (bnew h).out (by simp)
theorem aD.c1 (h:aD w r e (List.toArray (a0::l))):w.cell? ⟨r,0,none⟩=some a0:=h.cell 0 rfl
theorem aD.c2 {a1:Value} (h:aD w r e (List.toArray (a0::a1::l))):w.cell? ⟨r,0,none⟩=some a0/\w.cell? ⟨r,1,none⟩=some a1:=⟨h.cell 0 rfl,h.cell 1 rfl⟩
theorem aD.c3 {a1 a2:Value} (h:aD w r e (List.toArray (a0::a1::a2::l))):w.cell? ⟨r,0,none⟩=some a0/\w.cell? ⟨r,1,none⟩=some a1/\w.cell? ⟨r,2,none⟩=some a2:=⟨h.cell 0 rfl,h.cell 1 rfl,h.cell 2 rfl⟩
theorem aD.c4 {a1 a2 a3:Value} (h:aD w r e (List.toArray (a0::a1::a2::a3::l))):w.cell? ⟨r,0,none⟩=some a0/\w.cell? ⟨r,1,none⟩=some a1/\w.cell? ⟨r,2,none⟩=some a2/\w.cell? ⟨r,3,none⟩=some a3:=⟨h.cell 0 rfl,h.cell 1 rfl,h.cell 2 rfl,h.cell 3 rfl⟩
theorem aD.c5 {a1 a2 a3 a4:Value} (h:aD w r e (List.toArray (a0::a1::a2::a3::a4::l))):w.cell? ⟨r,0,none⟩=some a0/\w.cell? ⟨r,1,none⟩=some a1/\w.cell? ⟨r,2,none⟩=some a2/\w.cell? ⟨r,3,none⟩=some a3/\w.cell? ⟨r,4,none⟩=some a4:=⟨h.cell 0 rfl,h.cell 1 rfl,h.cell 2 rfl,h.cell 3 rfl,h.cell 4 rfl⟩
theorem aD.c6 {a1 a2 a3 a4 a5:Value} (h:aD w r e (List.toArray (a0::a1::a2::a3::a4::a5::l))):w.cell? ⟨r,0,none⟩=some a0/\w.cell? ⟨r,1,none⟩=some a1/\w.cell? ⟨r,2,none⟩=some a2/\w.cell? ⟨r,3,none⟩=some a3/\w.cell? ⟨r,4,none⟩=some a4/\w.cell? ⟨r,5,none⟩=some a5:=⟨h.cell 0 rfl,h.cell 1 rfl,h.cell 2 rfl,h.cell 3 rfl,h.cell 4 rfl,h.cell 5 rfl⟩
theorem aD.c7 {a1 a2 a3 a4 a5 a6:Value} (h:aD w r e (List.toArray (a0::a1::a2::a3::a4::a5::a6::l))):w.cell? ⟨r,0,none⟩=some a0/\w.cell? ⟨r,1,none⟩=some a1/\w.cell? ⟨r,2,none⟩=some a2/\w.cell? ⟨r,3,none⟩=some a3/\w.cell? ⟨r,4,none⟩=some a4/\w.cell? ⟨r,5,none⟩=some a5/\w.cell? ⟨r,6,none⟩=some a6:=⟨h.cell 0 rfl,h.cell 1 rfl,h.cell 2 rfl,h.cell 3 rfl,h.cell 4 rfl,h.cell 5 rfl,h.cell 6 rfl⟩
theorem aD.a1 (h:aD w r e (List.toArray (a0::l))):(∀X:ah w,X.1.cell? ⟨r,0,none⟩=some a0):=fun X=>X.cell (h.cell 0 rfl)
theorem aD.a2 {a1:Value} (h:aD w r e (List.toArray (a0::a1::l))):(∀X:ah w,X.1.cell? ⟨r,0,none⟩=some a0)/\(∀X:ah w,X.1.cell? ⟨r,1,none⟩=some a1):=⟨fun X=>X.cell (h.cell 0 rfl),fun X=>X.cell (h.cell 1 rfl)⟩
theorem aD.a3 {a1 a2:Value} (h:aD w r e (List.toArray (a0::a1::a2::l))):(∀X:ah w,X.1.cell? ⟨r,0,none⟩=some a0)/\(∀X:ah w,X.1.cell? ⟨r,1,none⟩=some a1)/\(∀X:ah w,X.1.cell? ⟨r,2,none⟩=some a2):=⟨fun X=>X.cell (h.cell 0 rfl),fun X=>X.cell (h.cell 1 rfl),fun X=>X.cell (h.cell 2 rfl)⟩
theorem aD.a4 {a1 a2 a3:Value} (h:aD w r e (List.toArray (a0::a1::a2::a3::l))):(∀X:ah w,X.1.cell? ⟨r,0,none⟩=some a0)/\(∀X:ah w,X.1.cell? ⟨r,1,none⟩=some a1)/\(∀X:ah w,X.1.cell? ⟨r,2,none⟩=some a2)/\(∀X:ah w,X.1.cell? ⟨r,3,none⟩=some a3):=⟨fun X=>X.cell (h.cell 0 rfl),fun X=>X.cell (h.cell 1 rfl),fun X=>X.cell (h.cell 2 rfl),fun X=>X.cell (h.cell 3 rfl)⟩
theorem aD.a5 {a1 a2 a3 a4:Value} (h:aD w r e (List.toArray (a0::a1::a2::a3::a4::l))):(∀X:ah w,X.1.cell? ⟨r,0,none⟩=some a0)/\(∀X:ah w,X.1.cell? ⟨r,1,none⟩=some a1)/\(∀X:ah w,X.1.cell? ⟨r,2,none⟩=some a2)/\(∀X:ah w,X.1.cell? ⟨r,3,none⟩=some a3)/\(∀X:ah w,X.1.cell? ⟨r,4,none⟩=some a4):=⟨fun X=>X.cell (h.cell 0 rfl),fun X=>X.cell (h.cell 1 rfl),fun X=>X.cell (h.cell 2 rfl),fun X=>X.cell (h.cell 3 rfl),fun X=>X.cell (h.cell 4 rfl)⟩
theorem aD.a6 {a1 a2 a3 a4 a5:Value} (h:aD w r e (List.toArray (a0::a1::a2::a3::a4::a5::l))):(∀X:ah w,X.1.cell? ⟨r,0,none⟩=some a0)/\(∀X:ah w,X.1.cell? ⟨r,1,none⟩=some a1)/\(∀X:ah w,X.1.cell? ⟨r,2,none⟩=some a2)/\(∀X:ah w,X.1.cell? ⟨r,3,none⟩=some a3)/\(∀X:ah w,X.1.cell? ⟨r,4,none⟩=some a4)/\(∀X:ah w,X.1.cell? ⟨r,5,none⟩=some a5):=⟨fun X=>X.cell (h.cell 0 rfl),fun X=>X.cell (h.cell 1 rfl),fun X=>X.cell (h.cell 2 rfl),fun X=>X.cell (h.cell 3 rfl),fun X=>X.cell (h.cell 4 rfl),fun X=>X.cell (h.cell 5 rfl)⟩
theorem aD.a7 {a1 a2 a3 a4 a5 a6:Value} (h:aD w r e (List.toArray (a0::a1::a2::a3::a4::a5::a6::l))):(∀X:ah w,X.1.cell? ⟨r,0,none⟩=some a0)/\(∀X:ah w,X.1.cell? ⟨r,1,none⟩=some a1)/\(∀X:ah w,X.1.cell? ⟨r,2,none⟩=some a2)/\(∀X:ah w,X.1.cell? ⟨r,3,none⟩=some a3)/\(∀X:ah w,X.1.cell? ⟨r,4,none⟩=some a4)/\(∀X:ah w,X.1.cell? ⟨r,5,none⟩=some a5)/\(∀X:ah w,X.1.cell? ⟨r,6,none⟩=some a6):=⟨fun X=>X.cell (h.cell 0 rfl),fun X=>X.cell (h.cell 1 rfl),fun X=>X.cell (h.cell 2 rfl),fun X=>X.cell (h.cell 3 rfl),fun X=>X.cell (h.cell 4 rfl),fun X=>X.cell (h.cell 5 rfl),fun X=>X.cell (h.cell 6 rfl)⟩
section
variable {α:Type}
def On (J:List α->List Nat->World->Prop) (ms:List α) (O:List Nat) (W W':World):Prop:=∃O',(∀k∈O',k∈O\/W.heap.size<=k)/\J ms O' W'/\aa O W W'
structure Cy (P:Program) (B:Nat) (Jy:List Nat) (l:Nat) (enc:α->Value) (K:Nat) (J:List α->List Nat->World->Prop) (Jx:World->Prop):Prop where
 stay:∀{ms O W W'},J ms O W->W.heap.size<=W'.heap.size->(∀k∈O,W'.heap[k]?=W.heap[k]?)->J ms O W'
 own:∀{ms O W},J ms O W->∀k∈O,B<=k/\k<W.heap.size/\k∉Jy
 yield:∀ms m O W,J ms O W->ms.length<K->YieldAt Fence.wide 0 P l #[enc m] W fun e W'=>
  (e=.returned (.bool true)/\On J (ms++[m]) O W W')\/(e=.returned (.bool false)/\Jx W'/\aa O W W')
def CA (J:List α->List Nat->World->Prop) (Jx:World->Prop) (L:List α) (O:List Nat) (W:World) (e:Ending) (W':World):Prop:=
 (∃v,e=.returned v)/\(On J L O W W'\/(L≠ []/\Jx W'/\aa O W W'))
def Jz (I:List α->List Nat->World->Prop) (Ix:World->Prop) (ms:List α) (O:List Nat) (W:World):Exit->Act->World->Prop
 |.normal,_,W'=>On I ms O W W'
 |.ret,_,W'=>Ix W'/\aa O W W'
 |_,_,_=>False
theorem uU {P:Program} {g:Operand} {ps:Array Tmp} {assign body:Code} {Q:Exit->Act->World->Prop} {a:Act}
 {gf:Nat} {fs lb:Array Value} (hg:a.eval g=.func (.func gf) fs lb) (eg:∀args w,(callFunc gf args).run P w=.ok (.enter gf args) w)
 {enc:α->Value} (Bc:ps.size=1) (L:List α) (B:Nat) (Jy:List Nat) (hB:B<=w.heap.size) (ON:∀k∈Jy,k<w.heap.size)
 (zbh:∀(l:Nat) (W:World) (O:List Nat) (J:List α->List Nat->World->Prop) (Jx:World->Prop),Cy P B Jy l enc L.length J Jx->aa [] w W->J [] O W->
   Calls P gf (fs++#[.func (.yield l) #[] #[]]++lb) W (CA J Jx L O W))
 (I:List α->List Nat->World->Prop) (Ix:World->Prop) (O:List Nat)
 (zF:∀{ms O W W'},I ms O W->W.heap.size<=W'.heap.size->(∀k∈O,W'.heap[k]?=W.heap[k]?)->I ms O W')
 (bO:∀{ms O W},I ms O W->∀k∈O,B<=k/\k<W.heap.size/\k∉Jy)
 (JA:∀{W W'},Ix W->(∀k,k<w.heap.size->W'.heap[k]?=W.heap[k]?)->Ix W')
 (h0:I [] O w)
 (Ax:α->Nat->Act->World->Prop)
 (MV:∀(l:Nat) (ms:List α) (x:α) (O:List Nat) (W:World) (K:Act->World->Prop),I ms O W->(∀a₁ W₁,aa [] W W₁->Ax x W.heap.size a₁ W₁->K a₁ W₁)->
   assign.wpIn (Fence.wide.inRound l) 0 P (Exit.then K (fun _ _ _=>False)) {tmps:=(ps.zip #[enc x]).foldl (fun t (p,v)=>t.setIfInBounds p v) a.tmps,defers:=[]} W)
 (hAx:∀{x:α} {N:Nat} {a₁:Act} {W W':World},Ax x N a₁ W->W.heap.size<=W'.heap.size->(∀k,N<=k->k<W.heap.size->W'.heap[k]?=W.heap[k]?)->Ax x N a₁ W')
 (jz:∀(l:Nat) (ms:List α) (x:α) (O:List Nat) (N:Nat) (a₁:Act) (W:World),I ms O W->ms.length<L.length->(∀k∈O,k<N)->N<=W.heap.size->w.heap.size<=N->Ax x N a₁ W->
   body.wpIn (Fence.wide.inRound l) 0 P (Jz I Ix (ms++[x]) O W) a₁ W)
 (VF:∀(D:Nat) (O':List Nat) (W:World),(∀k∈O',k∈O\/w.heap.size<=k)->I L O' W->aa O w W->W.heap[D]?=some (.deferred (some []))->w.heap.size<=D->
   Q .normal {a with defers:={target:=.collected D,args:=#[]}::a.defers} W)
 (VG:∀(D:Nat) (W:World),L≠ []->Ix W->aa O w W->W.heap[D]?=some (.deferred (some []))->w.heap.size<=D->
   Code.ret.wp P Q {a with defers:={target:=.collected D,args:=#[]}::a.defers} W):
 (Code.rangeFunc g ps assign body).wp P Q a w:=by
 refine(wpIn_wide (n:=0)).1 (wpIn_rangeFunc ?_);intro fn tN;rw[Fence.wide_round];obtain⟨rec,wS⟩:∃rec:LoopState->Option Code->Loop,rec=fun st pe=>{state:=st,pending:=pe,fn,tmps:=a.tmps,params:=ps,assign,body,defers:=w.heap.size}:=⟨_,rfl⟩
 obtain⟨W1,FY⟩:=ex1 ((w.alloc (.deferred (some []))).alloc (.loop (rec .ready none)))
 have hL1:W1.heap[w.heap.size+1]?=some (.loop (rec .ready none)):=by
  rw[<-FY];have:=World.alloc_heap_new (w.alloc (.deferred (some []))) (.loop (rec .ready none));rwa [World.size_alloc]at this
 have hK1:W1.heap[w.heap.size]?=some (.deferred (some [])):=by
  rw[<-FY];exact(Below.heap_alloc _ _ _ (by simp)).trans (World.alloc_heap_new w _)
 have bE:Below w.heap.size w W1:=by
  rw[<-FY];exact((Below.refl _ w).alloc (Nat.le_refl _) _).alloc (by simp) _
 have Vq:W1.heap.size=w.heap.size+2:=by rw[<-FY];simp
 have hI1:I [] O W1:=zF h0 bE.size fun k hk=>bE.block k (bO h0 k hk).2.1
 refine⟨w.heap.size+1,[{target:=.collected w.heap.size,args:=#[]}],W1,{target:=.fn (.func gf) lb,args:=fs++#[.func (.yield (w.heap.size+1)) #[] #[]]},W1,gf,
  fs++#[.func (.yield (w.heap.size+1)) #[] #[]]++lb,W1,?_,?_,?_,?_,fun h=>by simp[Fence.wide]at h,?_⟩
 .rw[<-FY,wS];exact run_enterLoop_outer _ _ _ _ _
 .simp only[resolve,hg];simp[go_sem]
 .intro f' _;trivial
 .simp[invoke,go_sem,eg]
 .refine callsIn_wide.2 ((zbh (w.heap.size+1) W1 (w.heap.size::(w.heap.size+1)::O)
   (fun ms O' W=>∃O1,O'=w.heap.size::(w.heap.size+1)::O1/\(∀k∈O1,k∈O\/W1.heap.size<=k)/\I ms O1 W/\W.heap[w.heap.size+1]?=some (.loop (rec .ready none))/\W.heap[w.heap.size]?=some (.deferred (some [])))
   (fun W=>Ix W/\W.heap[w.heap.size+1]?=some (.loop (rec .done (some .ret)))/\W.heap[w.heap.size]?=some (.deferred (some [])))
   ⟨?_,?_,?_⟩ (.of bE) ⟨O,rfl,fun _=>.inl,hI1,hL1,hK1⟩).mono ?_)
  .rintro ms O' W W' ⟨O1,rfl,MW,hi,hl,hk⟩ hs hb;exact⟨O1,rfl,MW,zF hi hs fun k h=>hb k (by simp[h]),(hb _ (by simp)).trans hl,(hb _ (by simp)).trans hk⟩
  .rintro ms O' W ⟨O1,rfl,MW,hi,hl,hk⟩ k hm;have ar:w.heap.size+1<W.heap.size:=(Array.getElem?_eq_some_iff.1 hl).1;simp only[List.mem_cons]at hm;rcases hm with rfl|rfl|hm
   .exact⟨hB,by omega,fun hp=>by have:=ON _ hp;omega⟩
   .exact⟨by omega,ar,fun hp=>by have:=ON _ hp;omega⟩
   .exact bO hi k hm
  .rintro ms x O' W ⟨O1,rfl,MW,hi,hl,hk⟩ hlen;have ar:w.heap.size+1<W.heap.size:=(Array.getElem?_eq_some_iff.1 hl).1
   have hn:w.heap.size∉O1/\w.heap.size+1∉O1:=⟨fun h=>by
    rcases MW _ h with h|h
    .have:=(bO h0 _ h).2.1;omega
    .omega,fun h=>by
    rcases MW _ h with h|h
    .have:=(bO h0 _ h).2.1;omega
    .omega⟩
   have hy:=run_yield (P:=P) (args:=#[enc x]) hl (by rw[wS];exact Bc.symm);rw[wS]at hy;refine⟨fn,_,assign,body,hy,roundIn_of_wpIn tN (MV _ ms x O1 W _ hi fun a₁ W₁ Ru hx=>?_)⟩;have Qw:W₁.heap[w.heap.size+1]?=some (.loop (rec .ready none)):=(Ru.block _ ar (by simp)).trans hl;have oL:W₁.heap[w.heap.size]?=some (.deferred (some [])):=(Ru.block _ (by omega) (by simp)).trans hk;have B7:w.heap.size+1<W₁.heap.size:=(Array.getElem?_eq_some_iff.1 Qw).1;refine⟨_,run_beginRound Qw (by rw[wS]),?_⟩;have xZ:(W₁.putObj (w.heap.size+1) (.loop {rec .ready none with state:=.busy})).heap[w.heap.size+1]?=some (.loop {rec .ready none with state:=.busy}):=World.putObj_heap_same B7;have mO:(W₁.putObj (w.heap.size+1) (.loop {rec .ready none with state:=.busy})).heap[w.heap.size]?=some (.deferred (some [])):=(World.putObj_heap_other (by omega)).trans oL;have hOW:∀k∈O1,k<W.heap.size:=fun k h=>(bO hi k h).2.1
   have hI2:I ms O1 (W₁.putObj (w.heap.size+1) (.loop {rec .ready none with state:=.busy})):=zF hi (by simpa using Ru.size) fun k h=>
    (World.putObj_heap_other (fun(e:k=w.heap.size+1)=>hn.2 (by rw[<-e];exact h))).trans (Ru.block k (hOW k h) (by simp))
   refine wpIn_mono (jz _ ms x O1 W.heap.size a₁ _ hI2 hlen hOW (by simpa using Ru.size) (by omega) (hAx hx (by simp) fun k h1 _=>World.putObj_heap_other (by omega))) ?_
   have fin:∀(jump:Option Code) (W3:World),aa O1 (W₁.putObj (w.heap.size+1) (.loop {rec .ready none with state:=.busy})) W3->
    (Instr.endRound (w.heap.size+1) jump).run P W3=.ok (.bool jump.isNone) (W3.putObj (w.heap.size+1) (.loop (rec (if jump.isNone then .ready else .done) jump)))/\
    (W3.putObj (w.heap.size+1) (.loop (rec (if jump.isNone then .ready else .done) jump))).heap[w.heap.size+1]?=some (.loop (rec (if jump.isNone then .ready else .done) jump))/\
    (W3.putObj (w.heap.size+1) (.loop (rec (if jump.isNone then .ready else .done) jump))).heap[w.heap.size]?=some (.deferred (some []))/\
    aa (w.heap.size::(w.heap.size+1)::O1) W (W3.putObj (w.heap.size+1) (.loop (rec (if jump.isNone then .ready else .done) jump))):=fun jump W3 od=>by
    have hl3:=(od.block _ (by simpa using B7) hn.2).trans xZ;have:=run_endRound (P:=P) jump hl3
    have hKp:aa (w.heap.size::(w.heap.size+1)::O1) W (W3.putObj (w.heap.size+1) (.loop (rec (if jump.isNone then .ready else .done) jump))):=
     (((Ru.mono (O':=w.heap.size::(w.heap.size+1)::O1) (by simp)).trans' (aa.putObj W₁ (by simp) _)).trans od (fun k h=>.inl (by simp[h]))).trans' (aa.putObj W3 (by simp) _)
    refine⟨by rw[this,wS],World.putObj_heap_same (Array.getElem?_eq_some_iff.1 hl3).1,(World.putObj_heap_other (by omega)).trans ((od.block _ (by simp;omega) hn.1).trans mO),hKp⟩
   rintro e a3 W3 hp;cases e with
   |normal=>
    obtain⟨O2,sA,QC,od⟩:=hp;obtain⟨hr,VH,mT,GV⟩:=fin none W3 od;simp only[World.putObj_size]at sA;have bQ:=Ru.size;refine⟨_,_,hr,.inl ⟨rfl,w.heap.size::(w.heap.size+1)::O2,?_,⟨O2,rfl,?_,?_,VH,mT⟩,GV⟩⟩
    .intro k h;simp only[List.mem_cons]at h⊢;rcases h with h|h|h
     .exact .inl (.inl h)
     .exact .inl (.inr (.inl h))
     .exact(sA k h).elim (fun h=>.inl (.inr (.inr h))) (fun h=>.inr (by omega))
    .intro k h;rcases sA k h with h|h
     .exact MW k h
     .exact .inr (by omega)
    .exact zF QC (by simp) fun k h=>World.putObj_heap_other fun e=>by
      subst e;rcases sA _ h with h|h
      .exact hn.2 h
      .omega
   |ret=>
    obtain⟨hx3,od⟩:=hp;obtain⟨hr,VH,mT,GV⟩:=fin (some .ret) W3 od;exact⟨_,_,hr,.inr ⟨rfl,⟨JA hx3 fun k h=>World.putObj_heap_other (by omega),VH,mT⟩,GV⟩⟩
   |exit id=>exact hp.elim
   |goto t=>exact hp.elim
   |panic ch=>exact hp.elim
   |outgrown=>exact hp.elim
  .have hOO:∀x∈w.heap.size::(w.heap.size+1)::O,x∈O\/w.heap.size<=x:=fun x h=>by
    simp only[List.mem_cons]at h;rcases h with rfl|rfl|h
    .exact .inr (Nat.le_refl _)
    .exact .inr (Nat.le_succ _)
    .exact .inl h
   rintro e W2 ⟨⟨v,rfl⟩,(⟨O',MX,⟨O1,rfl,MW,hi,hl,hk⟩,GV⟩|⟨hL,⟨hx,hl,hk⟩,GV⟩)⟩
   .have Rv:aa O w (W2.putObj (w.heap.size+1) (.loop {rec .ready none with state:=.exhausted})):=
     (((aa.of bE).trans GV hOO).trans (aa.putObj (O:=[w.heap.size+1]) W2 (by simp) _) (by simp))
    refine⟨none,_,by have:=run_endLoop (P:=P) hl (by rw[wS];simp);rw[this,wS],VF _ O1 _ (fun k h=>(MW k h).imp id (fun h=>by omega)) (zF hi (by simp) fun k h=>World.putObj_heap_other fun e=>?_) Rv ((World.putObj_heap_other (by omega)).trans hk) (Nat.le_refl _)⟩;subst e;rcases MW _ h with h|h
    .have:=(bO h0 _ h).2.1;omega
    .omega
   .have Rv:aa O w (W2.putObj (w.heap.size+1) (.loop {rec .done (some .ret)with state:=.exhausted})):=
     (((aa.of bE).trans GV hOO).trans (aa.putObj (O:=[w.heap.size+1]) W2 (by simp) _) (by simp))
    exact⟨some .ret,_,by have:=run_endLoop (P:=P) hl (by rw[wS];simp);rw[this,wS],(wpIn_wide (n:=0)).2 (VG _ _ hL (JA hx fun k h=>World.putObj_heap_other (by omega)) Rv ((World.putObj_heap_other (by omega)).trans hk) (Nat.le_refl _))⟩
end
end Go.Proofs.Cz
namespace Go.Proofs.Cz
end Go.Proofs.Cz
