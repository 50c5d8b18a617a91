/- A part. Conditions: none. -/
import Derived.Test.YtddlcmejelobdaaGreatDoorT27
import Derived.RangeFuncSeq
set_option linter.all false
set_option maxHeartbeats 8000000
namespace Go.Proofs.Cz
open Go.RowKit
variable {A B W W' W1 W2 w:nq} {O O':List Nat} {a:Addr} {a0:fu} {cs:Array fu} {e t:a00} {g n r:Nat} {l:List fu} {o o':Obj}
def aA (w:nq) (g:Nat) (t:a00) (cs:Array fu):Prop:=w.heap[g]?=some (.cells cs t)
def aA.lt (h:aA w g t cs):g<w.heap.size:=(zAD.1 h).1
def aA.cell (h:aA w g t cs) (i:Nat) {v:fu} (hi:cs[i]?=some v):w.cell? ⟨g,i,none⟩=some v:=by
 unfold aA at h;simp only[World.cell?,h];exact hi
def aA.aH (h:aA w g t cs) (i:Nat):w.frozen? ⟨g,i,none⟩=false:=by
 unfold aA at h;simp[World.frozen?,h]
def aA.new (w:nq) (t:a00) (cs:Array fu):aA (w.alloc (.cells cs t)) w.heap.size t cs:=World.alloc_heap_new w _
def aA.set (h:aA w g t cs) (i:Nat) (v:fu):aA (w.setCell ⟨g,i,none⟩ v) g t (cs.setIfInBounds i v):=by
 unfold aA at*;obtain⟨av,hk⟩:=zAD.1 h;show(w.heap.modify g _)[g]?=_;rw[zAI (by rw[Array.size_modify];exact av),Array.getElem_modify_self,hk];simp
structure aa (O:List Nat) (W W':nq):Prop where
 os:W'.os=W.os
 tape:W'.tape=W.tape
 output:W'.output=W.output
 size:W.heap.size<=W'.heap.size
 block:∀k,k<W.heap.size->k∉O->W'.heap[k]?=W.heap[k]?
def aa.refl (O:List Nat) (W:nq):aa O W W:=⟨rfl,rfl,rfl,zAB _,λ_ _ _=>rfl⟩
def aa.trans (h:aa O W W1) (k:aa O' W1 W2) (hO:∀x∈O',x∈O\/W.heap.size<=x):aa O W W2:=
 ⟨k.os.trans h.os,k.tape.trans h.tape,k.output.trans h.output,zAP h.size k.size,λi hi hn=>
   (k.block i (zAY hi h.size) (λhx=>(hO i hx).elim hn (λhy=>by omega))).trans (h.block i hi hn)⟩
def aa.trans' (h:aa O W W1) (k:aa O W1 W2):aa O W W2:=h.trans k λ_=>.inl
def aa.mono (h:aa O W W1) (hO:∀x∈O,x∈O'\/W.heap.size<=x):aa O' W W1:=(aa.refl O' W).trans h hO
def aa.of (h:Below W.heap.size W W'):aa O W W':=⟨h.os,h.tape,h.output,h.size,λk hk _=>h.block k hk⟩
def aa.alloc (O:List Nat) (W:nq) (o:Obj):aa O W (W.alloc o):=.of ((Below.refl _ _).alloc (zAB _) _)
def aa.set (W:nq) (h:a.block∈O) (v:fu):aa O W (W.setCell a v):=
 ⟨rfl,rfl,rfl,by simp[World.setCell],λk _ hn=>Below.heap_setCell _ _ _ _ (λe=>hn (e▸h))⟩
def aa.putObj (W:nq) (h:r∈O) (o:Obj):aa O W (W.putObj r o):=
 ⟨rfl,rfl,rfl,by simp,λk _ hn=>World.putObj_heap_other (λe=>hn (e▸h))⟩
def aa.below (h:aa O W W') {B:Nat} (hO:∀k∈O,B<=k) (hB:B<=W.heap.size):Below B W W':=
 ⟨h.os,h.tape,h.output,h.size,λk hk=>h.block k (by omega) (λhx=>by have:=hO k hx;omega)⟩
def aa.box (h:aa O W W') (hb:aA W g t cs) (hg:g∉O):aA W' g t cs:=
 (h.block g hb.lt hg).trans hb
def aa.on (h:aa O W W') (hl:a.block<W.heap.size) (ha:a.block∉O):W'.cell? a=W.cell? a:=
 World.cell?_of_block (w:=W) (h.block a.block hl ha)
def bnew (h:w.alloc (.cells cs e)=A):Hid (aA A w.heap.size e cs):=by rw[<-h];exact aA.new _ _ _
def bnew2 (h:w.alloc (.cells cs e)=A) (k:w.heap.size=n):Hid (aA A n e cs):=by rw[<-k];exact bnew h
def knew (h:w.alloc o=A):aa [] w A:=by rw[<-h];exact aa.alloc _ _ _
def aa.b {w':nq} (h:aa [] w w') (k:n<=w.heap.size):Below n w w':=h.below (by simp) k
def wnew (h:w.alloc o=A):Hid (Below w.heap.size w A):=(knew h).b (zAB _)
def hidk {a b c:nq} (h:Hid (Below a.heap.size a b)) (k:aa [] b c):Hid (Below a.heap.size a c):=Below.trans h.out (k.b h.out.size)
def wnew2 (h:w.alloc o=A) (k:A.alloc o'=B):Hid (Below w.heap.size w B):=hidk (wnew h) (knew k)
def wnew3 {C:nq} {o'':Obj} (h:w.alloc o=A) (k:A.alloc o'=B) (j:B.alloc o''=C):Hid (Below w.heap.size w C):=hidk (wnew2 h k) (knew j)
def bnewk (h:w.alloc (.cells cs e)=A) (k:A.alloc o=B):Hid (aA B w.heap.size e cs):=(knew k).box (bnew h).out (by simp)
def aA.c1 (h:aA w r e (List.toArray (a0::l))):w.cell? ⟨r,0,none⟩=some a0:=h.cell 0 rfl
def aA.c2 {a1:fu} (h:aA w r e (List.toArray (a0::a1::l))):w.cell? ⟨r,0,none⟩=some a0/\w.cell? ⟨r,1,none⟩=some a1:=⟨h.cell 0 rfl,h.cell 1 rfl⟩
def aA.c3 {a1 a2:fu} (h:aA w r e (List.toArray (a0::a1::a2::l))):w.cell? ⟨r,0,none⟩=some a0/\w.cell? ⟨r,1,none⟩=some a1/\w.cell? ⟨r,2,none⟩=some a2:=⟨h.cell 0 rfl,h.cell 1 rfl,h.cell 2 rfl⟩
def aA.c4 {a1 a2 a3:fu} (h:aA w r e (List.toArray (a0::a1::a2::a3::l))):w.cell? ⟨r,0,none⟩=some a0/\w.cell? ⟨r,1,none⟩=some a1/\w.cell? ⟨r,2,none⟩=some a2/\w.cell? ⟨r,3,none⟩=some a3:=⟨h.cell 0 rfl,h.cell 1 rfl,h.cell 2 rfl,h.cell 3 rfl⟩
def aA.c5 {a1 a2 a3 a4:fu} (h:aA w r e (List.toArray (a0::a1::a2::a3::a4::l))):w.cell? ⟨r,0,none⟩=some a0/\w.cell? ⟨r,1,none⟩=some a1/\w.cell? ⟨r,2,none⟩=some a2/\w.cell? ⟨r,3,none⟩=some a3/\w.cell? ⟨r,4,none⟩=some a4:=⟨h.cell 0 rfl,h.cell 1 rfl,h.cell 2 rfl,h.cell 3 rfl,h.cell 4 rfl⟩
def aA.c6 {a1 a2 a3 a4 a5:fu} (h:aA w r e (List.toArray (a0::a1::a2::a3::a4::a5::l))):w.cell? ⟨r,0,none⟩=some a0/\w.cell? ⟨r,1,none⟩=some a1/\w.cell? ⟨r,2,none⟩=some a2/\w.cell? ⟨r,3,none⟩=some a3/\w.cell? ⟨r,4,none⟩=some a4/\w.cell? ⟨r,5,none⟩=some a5:=⟨h.cell 0 rfl,h.cell 1 rfl,h.cell 2 rfl,h.cell 3 rfl,h.cell 4 rfl,h.cell 5 rfl⟩
def aA.c7 {a1 a2 a3 a4 a5 a6:fu} (h:aA w r e (List.toArray (a0::a1::a2::a3::a4::a5::a6::l))):w.cell? ⟨r,0,none⟩=some a0/\w.cell? ⟨r,1,none⟩=some a1/\w.cell? ⟨r,2,none⟩=some a2/\w.cell? ⟨r,3,none⟩=some a3/\w.cell? ⟨r,4,none⟩=some a4/\w.cell? ⟨r,5,none⟩=some a5/\w.cell? ⟨r,6,none⟩=some a6:=⟨h.cell 0 rfl,h.cell 1 rfl,h.cell 2 rfl,h.cell 3 rfl,h.cell 4 rfl,h.cell 5 rfl,h.cell 6 rfl⟩
def aA.a1 (h:aA w r e (List.toArray (a0::l))):(∀X:am w,X.1.cell? ⟨r,0,none⟩=some a0):=λX=>X.cell (h.cell 0 rfl)
def aA.a2 {a1:fu} (h:aA w r e (List.toArray (a0::a1::l))):(∀X:am w,X.1.cell? ⟨r,0,none⟩=some a0)/\(∀X:am w,X.1.cell? ⟨r,1,none⟩=some a1):=⟨λX=>X.cell (h.cell 0 rfl),λX=>X.cell (h.cell 1 rfl)⟩
def aA.a3 {a1 a2:fu} (h:aA w r e (List.toArray (a0::a1::a2::l))):(∀X:am w,X.1.cell? ⟨r,0,none⟩=some a0)/\(∀X:am w,X.1.cell? ⟨r,1,none⟩=some a1)/\(∀X:am w,X.1.cell? ⟨r,2,none⟩=some a2):=⟨λX=>X.cell (h.cell 0 rfl),λX=>X.cell (h.cell 1 rfl),λX=>X.cell (h.cell 2 rfl)⟩
def aA.a4 {a1 a2 a3:fu} (h:aA w r e (List.toArray (a0::a1::a2::a3::l))):(∀X:am w,X.1.cell? ⟨r,0,none⟩=some a0)/\(∀X:am w,X.1.cell? ⟨r,1,none⟩=some a1)/\(∀X:am w,X.1.cell? ⟨r,2,none⟩=some a2)/\(∀X:am w,X.1.cell? ⟨r,3,none⟩=some a3):=⟨λX=>X.cell (h.cell 0 rfl),λX=>X.cell (h.cell 1 rfl),λX=>X.cell (h.cell 2 rfl),λX=>X.cell (h.cell 3 rfl)⟩
def aA.a5 {a1 a2 a3 a4:fu} (h:aA w r e (List.toArray (a0::a1::a2::a3::a4::l))):(∀X:am w,X.1.cell? ⟨r,0,none⟩=some a0)/\(∀X:am w,X.1.cell? ⟨r,1,none⟩=some a1)/\(∀X:am w,X.1.cell? ⟨r,2,none⟩=some a2)/\(∀X:am w,X.1.cell? ⟨r,3,none⟩=some a3)/\(∀X:am w,X.1.cell? ⟨r,4,none⟩=some a4):=⟨λX=>X.cell (h.cell 0 rfl),λX=>X.cell (h.cell 1 rfl),λX=>X.cell (h.cell 2 rfl),λX=>X.cell (h.cell 3 rfl),λX=>X.cell (h.cell 4 rfl)⟩
def aA.a6 {a1 a2 a3 a4 a5:fu} (h:aA w r e (List.toArray (a0::a1::a2::a3::a4::a5::l))):(∀X:am w,X.1.cell? ⟨r,0,none⟩=some a0)/\(∀X:am w,X.1.cell? ⟨r,1,none⟩=some a1)/\(∀X:am w,X.1.cell? ⟨r,2,none⟩=some a2)/\(∀X:am w,X.1.cell? ⟨r,3,none⟩=some a3)/\(∀X:am w,X.1.cell? ⟨r,4,none⟩=some a4)/\(∀X:am w,X.1.cell? ⟨r,5,none⟩=some a5):=⟨λX=>X.cell (h.cell 0 rfl),λX=>X.cell (h.cell 1 rfl),λX=>X.cell (h.cell 2 rfl),λX=>X.cell (h.cell 3 rfl),λX=>X.cell (h.cell 4 rfl),λX=>X.cell (h.cell 5 rfl)⟩
def aA.a7 {a1 a2 a3 a4 a5 a6:fu} (h:aA w r e (List.toArray (a0::a1::a2::a3::a4::a5::a6::l))):(∀X:am w,X.1.cell? ⟨r,0,none⟩=some a0)/\(∀X:am w,X.1.cell? ⟨r,1,none⟩=some a1)/\(∀X:am w,X.1.cell? ⟨r,2,none⟩=some a2)/\(∀X:am w,X.1.cell? ⟨r,3,none⟩=some a3)/\(∀X:am w,X.1.cell? ⟨r,4,none⟩=some a4)/\(∀X:am w,X.1.cell? ⟨r,5,none⟩=some a5)/\(∀X:am w,X.1.cell? ⟨r,6,none⟩=some a6):=⟨λX=>X.cell (h.cell 0 rfl),λX=>X.cell (h.cell 1 rfl),λX=>X.cell (h.cell 2 rfl),λX=>X.cell (h.cell 3 rfl),λX=>X.cell (h.cell 4 rfl),λX=>X.cell (h.cell 5 rfl),λX=>X.cell (h.cell 6 rfl)⟩
section
variable {α:Type}
def On (J:List α->List Nat->nq->Prop) (ms:List α) (O:List Nat) (W W':nq):Prop:=∃O',(∀k∈O',k∈O\/W.heap.size<=k)/\J ms O' W'/\aa O W W'
structure Gg (P:un) (B:Nat) (NC:List Nat) (l:Nat) (enc:α->fu) (K:Nat) (J:List α->List Nat->nq->Prop) (Jx:nq->Prop):Prop where
 stay:∀{ms O W W'},J ms O W->W.heap.size<=W'.heap.size->(∀k∈O,W'.heap[k]?=W.heap[k]?)->J ms O W'
 own:∀{ms O W},J ms O W->∀k∈O,B<=k/\k<W.heap.size/\k∉NC
 yield:∀ms m O W,J ms O W->ms.length<K->YieldAt Fence.wide 0 P l #[enc m] W λe W'=>
  (e=.returned (.bool true)/\On J (ms++[m]) O W W')\/(e=.returned (.bool false)/\Jx W'/\aa O W W')
def Gh (J:List α->List Nat->nq->Prop) (Jx:nq->Prop) (L:List α) (O:List Nat) (W:nq) (e:Ending) (W':nq):Prop:=
 (∃v,e=.returned v)/\(On J L O W W'\/(L≠ []/\Jx W'/\aa O W W'))
def ND (I:List α->List Nat->nq->Prop) (Ix:nq->Prop) (ms:List α) (O:List Nat) (W:nq):Exit->Act->nq->Prop
 |.normal,_,W'=>On I ms O W W'
 |.ret,_,W'=>Ix W'/\aa O W W'
 |_,_,_=>False
def rH {P:un} {g:Operand} {ps:Array Tmp} {assign body:Code} {Q:Exit->Act->nq->Prop} {a:Act}
 {gf:Nat} {fs lb:Array fu} (hg:a.eval g=.func (.func gf) fs lb) (eg:∀args w,(callFunc gf args).run P w=.ok (.enter gf args) w)
 {enc:α->fu} (xP:ps.size=1) (L:List α) (B:Nat) (NC:List Nat) (hB:B<=w.heap.size) (TY:∀k∈NC,k<w.heap.size)
 (zfZ:∀(l:Nat) (W:nq) (O:List Nat) (J:List α->List Nat->nq->Prop) (Jx:nq->Prop),Gg P B NC l enc L.length J Jx->aa [] w W->J [] O W->
   Calls P gf (fs++#[.func (.yield l) #[] #[]]++lb) W (Gh J Jx L O W))
 (I:List α->List Nat->nq->Prop) (Ix:nq->Prop) (O:List Nat)
 (Dk:∀{ms O W W'},I ms O W->W.heap.size<=W'.heap.size->(∀k∈O,W'.heap[k]?=W.heap[k]?)->I ms O W')
 (bQ:∀{ms O W},I ms O W->∀k∈O,B<=k/\k<W.heap.size/\k∉NC)
 (NE:∀{W W'},Ix W->(∀k,k<w.heap.size->W'.heap[k]?=W.heap[k]?)->Ix W')
 (h0:I [] O w)
 (Ax:α->Nat->Act->nq->Prop)
 (Ro:∀(l:Nat) (ms:List α) (x:α) (O:List Nat) (W:nq) (K:Act->nq->Prop),I ms O W->(∀a₁ W₁,aa [] W W₁->Ax x W.heap.size a₁ W₁->K a₁ W₁)->
   assign.wpIn (Fence.wide.inRound l) 0 P (Exit.then K (λ_ _ _=>False)) {tmps:=(ps.zip #[enc x]).foldl (λt (p,v)=>t.setIfInBounds p v) a.tmps,defers:=[]} W)
 (hAx:∀{x:α} {N:Nat} {a₁:Act} {W W':nq},Ax x N a₁ W->W.heap.size<=W'.heap.size->(∀k,N<=k->k<W.heap.size->W'.heap[k]?=W.heap[k]?)->Ax x N a₁ W')
 (kE:∀(l:Nat) (ms:List α) (x:α) (O:List Nat) (N:Nat) (a₁:Act) (W:nq),I ms O W->ms.length<L.length->(∀k∈O,k<N)->N<=W.heap.size->w.heap.size<=N->Ax x N a₁ W->
   body.wpIn (Fence.wide.inRound l) 0 P (ND I Ix (ms++[x]) O W) a₁ W)
 (za1:∀(D:Nat) (O':List Nat) (W:nq),(∀k∈O',k∈O\/w.heap.size<=k)->I L O' W->aa O w W->W.heap[D]?=some (.deferred (some []))->w.heap.size<=D->
   Q .normal {a with defers:={target:=.collected D,args:=#[]}::a.defers} W)
 (za2:∀(D:Nat) (W:nq),L≠ []->Ix W->aa O w W->W.heap[D]?=some (.deferred (some []))->w.heap.size<=D->
   Code.ret.wp P Q {a with defers:={target:=.collected D,args:=#[]}::a.defers} W):
 (Code.rangeFunc g ps assign body).wp P Q a w:=by
 refine(wpIn_wide (n:=0)).1 (wpIn_rangeFunc ?_);intro fn wW;rw[Fence.wide_round];obtain⟨rec,Au⟩:∃rec:LoopState->Option Code->Loop,rec=λst pe=>{state:=st,pending:=pe,fn,tmps:=a.tmps,params:=ps,assign,body,defers:=w.heap.size}:=⟨_,rfl⟩
 obtain⟨W1,Kf⟩:=ex1 ((w.alloc (.deferred (some []))).alloc (.loop (rec .ready none)))
 have hL1:W1.heap[w.heap.size+1]?=some (.loop (rec .ready none)):=by
  rw[<-Kf];have:=World.alloc_heap_new (w.alloc (.deferred (some []))) (.loop (rec .ready none));rwa [World.size_alloc]at this
 have hK1:W1.heap[w.heap.size]?=some (.deferred (some [])):=by
  rw[<-Kf];exact(Below.heap_alloc _ _ _ (by simp)).trans (World.alloc_heap_new w _)
 have bq:Below w.heap.size w W1:=by
  rw[<-Kf];exact((Below.refl _ w).alloc (zAB _) _).alloc (by simp) _
 have zaM:W1.heap.size=w.heap.size+2:=by rw[<-Kf];simp
 have hI1:I [] O W1:=Dk h0 bq.size λk hk=>bq.block k (bQ h0 k hk).2.1
 refine⟨w.heap.size+1,[{target:=.collected w.heap.size,args:=#[]}],W1,{target:=.fn (.func gf) lb,args:=fs++#[.func (.yield (w.heap.size+1)) #[] #[]]},W1,gf,
  fs++#[.func (.yield (w.heap.size+1)) #[] #[]]++lb,W1,?_,?_,?_,?_,λh=>by simp[Fence.wide]at h,?_⟩
 .rw[<-Kf,Au];exact run_enterLoop_outer _ _ _ _ _
 .simp only[resolve,hg];simp[go_sem]
 .intro f' _;trivial
 .simp[invoke,go_sem,eg]
 .refine callsIn_wide.2 ((zfZ (w.heap.size+1) W1 (w.heap.size::(w.heap.size+1)::O)
   (λms O' W=>∃O1,O'=w.heap.size::(w.heap.size+1)::O1/\(∀k∈O1,k∈O\/W1.heap.size<=k)/\I ms O1 W/\W.heap[w.heap.size+1]?=some (.loop (rec .ready none))/\W.heap[w.heap.size]?=some (.deferred (some [])))
   (λW=>Ix W/\W.heap[w.heap.size+1]?=some (.loop (rec .done (some .ret)))/\W.heap[w.heap.size]?=some (.deferred (some [])))
   ⟨?_,?_,?_⟩ (.of bq) ⟨O,rfl,λ_=>.inl,hI1,hL1,hK1⟩).mono ?_)
  .rintro ms O' W W' ⟨O1,rfl,Rp,hi,hl,hk⟩ hs hb;exact⟨O1,rfl,Rp,Dk hi hs λk h=>hb k (by simp[h]),(hb _ (by simp)).trans hl,(hb _ (by simp)).trans hk⟩
  .rintro ms O' W ⟨O1,rfl,Rp,hi,hl,hk⟩ k hm;have av:w.heap.size+1<W.heap.size:=(zAD.1 hl).1;simp only[zAL]at hm;rcases hm with rfl|rfl|hm
   .exact⟨hB,by omega,λhp=>by have:=TY _ hp;omega⟩
   .exact⟨by omega,av,λhp=>by have:=TY _ hp;omega⟩
   .exact bQ hi k hm
  .rintro ms x O' W ⟨O1,rfl,Rp,hi,hl,hk⟩ hlen;have av:w.heap.size+1<W.heap.size:=(zAD.1 hl).1
   have hn:w.heap.size∉O1/\w.heap.size+1∉O1:=⟨λh=>by
    rcases Rp _ h with h|h
    .have:=(bQ h0 _ h).2.1;omega
    .omega,λh=>by
    rcases Rp _ h with h|h
    .have:=(bQ h0 _ h).2.1;omega
    .omega⟩
   have hy:=run_yield (P:=P) (args:=#[enc x]) hl (by rw[Au];exact xP.symm);rw[Au]at hy;refine⟨fn,_,assign,body,hy,roundIn_of_wpIn wW (Ro _ ms x O1 W _ hi λa₁ W₁ WM hx=>?_)⟩;have TB:W₁.heap[w.heap.size+1]?=some (.loop (rec .ready none)):=(WM.block _ av (by simp)).trans hl;have nS:W₁.heap[w.heap.size]?=some (.deferred (some [])):=(WM.block _ (by omega) (by simp)).trans hk;have CO:w.heap.size+1<W₁.heap.size:=(zAD.1 TB).1;refine⟨_,run_beginRound TB (by rw[Au]),?_⟩;have te:(W₁.putObj (w.heap.size+1) (.loop {rec .ready none with state:=.busy})).heap[w.heap.size+1]?=some (.loop {rec .ready none with state:=.busy}):=World.putObj_heap_same CO;have f7:(W₁.putObj (w.heap.size+1) (.loop {rec .ready none with state:=.busy})).heap[w.heap.size]?=some (.deferred (some [])):=(World.putObj_heap_other (by omega)).trans nS;have hOW:∀k∈O1,k<W.heap.size:=λk h=>(bQ hi k h).2.1
   have hI2:I ms O1 (W₁.putObj (w.heap.size+1) (.loop {rec .ready none with state:=.busy})):=Dk hi (by simpa using WM.size) λk h=>
    (World.putObj_heap_other (λ(e:k=w.heap.size+1)=>hn.2 (by rw[<-e];exact h))).trans (WM.block k (hOW k h) (by simp))
   refine wpIn_mono (kE _ ms x O1 W.heap.size a₁ _ hI2 hlen hOW (by simpa using WM.size) (by omega) (hAx hx (by simp) λk h1 _=>World.putObj_heap_other (by omega))) ?_
   have fin:∀(jump:Option Code) (W3:nq),aa O1 (W₁.putObj (w.heap.size+1) (.loop {rec .ready none with state:=.busy})) W3->
    (Instr.endRound (w.heap.size+1) jump).run P W3=.ok (.bool jump.isNone) (W3.putObj (w.heap.size+1) (.loop (rec (if jump.isNone then .ready else .done) jump)))/\
    (W3.putObj (w.heap.size+1) (.loop (rec (if jump.isNone then .ready else .done) jump))).heap[w.heap.size+1]?=some (.loop (rec (if jump.isNone then .ready else .done) jump))/\
    (W3.putObj (w.heap.size+1) (.loop (rec (if jump.isNone then .ready else .done) jump))).heap[w.heap.size]?=some (.deferred (some []))/\
    aa (w.heap.size::(w.heap.size+1)::O1) W (W3.putObj (w.heap.size+1) (.loop (rec (if jump.isNone then .ready else .done) jump))):=λjump W3 mi=>by
    have hl3:=(mi.block _ (by simpa using CO) hn.2).trans te;have:=run_endRound (P:=P) jump hl3
    have hKp:aa (w.heap.size::(w.heap.size+1)::O1) W (W3.putObj (w.heap.size+1) (.loop (rec (if jump.isNone then .ready else .done) jump))):=
     (((WM.mono (O':=w.heap.size::(w.heap.size+1)::O1) (by simp)).trans' (aa.putObj W₁ (by simp) _)).trans mi (λk h=>.inl (by simp[h]))).trans' (aa.putObj W3 (by simp) _)
    refine⟨by rw[this,Au],World.putObj_heap_same (zAD.1 hl3).1,(World.putObj_heap_other (by omega)).trans ((mi.block _ (by simp;omega) hn.1).trans f7),hKp⟩
   rintro e a3 W3 hp;cases e with
   |normal=>
    obtain⟨O2,vr,VX,mi⟩:=hp;obtain⟨hr,TZ,mw,WN⟩:=fin none W3 mi;simp only[World.putObj_size]at vr;have cr:=WM.size;refine⟨_,_,hr,.inl ⟨rfl,w.heap.size::(w.heap.size+1)::O2,?_,⟨O2,rfl,?_,?_,TZ,mw⟩,WN⟩⟩
    .intro k h;simp only[zAL]at h⊢;rcases h with h|h|h
     .exact .inl (.inl h)
     .exact .inl (.inr (.inl h))
     .exact(vr k h).elim (λh=>.inl (.inr (.inr h))) (λh=>.inr (by omega))
    .intro k h;rcases vr k h with h|h
     .exact Rp k h
     .exact .inr (by omega)
    .exact Dk VX (by simp) λk h=>World.putObj_heap_other λe=>by
      subst e;rcases vr _ h with h|h
      .exact hn.2 h
      .omega
   |ret=>
    obtain⟨hx3,mi⟩:=hp;obtain⟨hr,TZ,mw,WN⟩:=fin (some .ret) W3 mi;exact⟨_,_,hr,.inr ⟨rfl,⟨NE hx3 λk h=>World.putObj_heap_other (by omega),TZ,mw⟩,WN⟩⟩
   |exit id=>exact hp.elim
   |goto t=>exact hp.elim
   |panic ch=>exact hp.elim
   |outgrown=>exact hp.elim
  .have hOO:∀x∈w.heap.size::(w.heap.size+1)::O,x∈O\/w.heap.size<=x:=λx h=>by
    simp only[zAL]at h;rcases h with rfl|rfl|h
    .exact .inr (zAB _)
    .exact .inr (zDH _)
    .exact .inl h
   rintro e W2 ⟨⟨v,rfl⟩,(⟨O',Pd,⟨O1,rfl,Rp,hi,hl,hk⟩,WN⟩|⟨hL,⟨hx,hl,hk⟩,WN⟩)⟩
   .have WO:aa O w (W2.putObj (w.heap.size+1) (.loop {rec .ready none with state:=.exhausted})):=
     (((aa.of bq).trans WN hOO).trans (aa.putObj (O:=[w.heap.size+1]) W2 (by simp) _) (by simp))
    refine⟨none,_,by have:=run_endLoop (P:=P) hl (by rw[Au];simp);rw[this,Au],za1 _ O1 _ (λk h=>(Rp k h).imp id (λh=>by omega)) (Dk hi (by simp) λk h=>World.putObj_heap_other λe=>?_) WO ((World.putObj_heap_other (by omega)).trans hk) (zAB _)⟩;subst e;rcases Rp _ h with h|h
    .have:=(bQ h0 _ h).2.1;omega
    .omega
   .have WO:aa O w (W2.putObj (w.heap.size+1) (.loop {rec .done (some .ret)with state:=.exhausted})):=
     (((aa.of bq).trans WN hOO).trans (aa.putObj (O:=[w.heap.size+1]) W2 (by simp) _) (by simp))
    exact⟨some .ret,_,by have:=run_endLoop (P:=P) hl (by rw[Au];simp);rw[this,Au],(wpIn_wide (n:=0)).2 (za2 _ _ hL (NE hx λk h=>World.putObj_heap_other (by omega)) WO ((World.putObj_heap_other (by omega)).trans hk) (zAB _))⟩
end
end Go.Proofs.Cz
