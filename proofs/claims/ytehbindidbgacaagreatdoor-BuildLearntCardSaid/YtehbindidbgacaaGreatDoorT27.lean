/- A part. Conditions: none. -/
import Derived.Test.YtehbindidbgacaaGreatDoorT26
import Derived.RangeFuncSeq
set_option linter.all false
set_option maxHeartbeats 8000000
namespace Go.Proofs.Cz
open Go.RowKit
variable {A B W W' W1 W2 w:World} {O O':List Nat} {a:Addr} {a0:Value} {cs:Array Value} {e t:TypeId} {g n r:Nat} {l:List Value} {o o':Obj}
def aA (w:World) (g:Nat) (t:TypeId) (cs:Array Value):Prop:=w.heap[g]?=some (.cells cs t)
theorem aA.lt (h:aA w g t cs):g<w.heap.size:=(zAD.1 h).1
theorem aA.cell (h:aA w g t cs) (i:Nat) {v:Value} (hi:cs[i]?=some v):w.cell? ⟨g,i,none⟩=some v:=by
 unfold aA at h;simp only[World.cell?,h];exact hi
theorem aA.aL (h:aA w g t cs) (i:Nat):w.frozen? ⟨g,i,none⟩=false:=by
 unfold aA at h;simp[World.frozen?,h]
theorem aA.new (w:World) (t:TypeId) (cs:Array Value):aA (w.alloc (.cells cs t)) w.heap.size t cs:=World.alloc_heap_new w _
theorem aA.set (h:aA w g t cs) (i:Nat) (v:Value):aA (w.setCell ⟨g,i,none⟩ v) g t (cs.setIfInBounds i v):=by
 unfold aA at*;obtain⟨az,hk⟩:=zAD.1 h;show(w.heap.modify g _)[g]?=_;rw[zAG (by rw[Array.size_modify];exact az),Array.getElem_modify_self,hk];simp
structure ab (O:List Nat) (W W':World):Prop where
 os:W'.os=W.os
 tape:W'.tape=W.tape
 output:W'.output=W.output
 size:W.heap.size<=W'.heap.size
 block:∀k,k<W.heap.size->k∉O->W'.heap[k]?=W.heap[k]?
theorem ab.refl (O:List Nat) (W:World):ab O W W:=⟨rfl,rfl,rfl,zAC _,λ_ _ _=>rfl⟩
theorem ab.trans (h:ab O W W1) (k:ab O' W1 W2) (hO:∀x∈O',x∈O\/W.heap.size<=x):ab O W W2:=
 ⟨k.os.trans h.os,k.tape.trans h.tape,k.output.trans h.output,zAP h.size k.size,λi hi hn=>
   (k.block i (zAV hi h.size) (λhx=>(hO i hx).elim hn (λhy=>by omega))).trans (h.block i hi hn)⟩
theorem ab.trans' (h:ab O W W1) (k:ab O W1 W2):ab O W W2:=h.trans k λ_=>.inl
theorem ab.mono (h:ab O W W1) (hO:∀x∈O,x∈O'\/W.heap.size<=x):ab O' W W1:=(ab.refl O' W).trans h hO
theorem ab.of (h:Below W.heap.size W W'):ab O W W':=⟨h.os,h.tape,h.output,h.size,λk hk _=>h.block k hk⟩
theorem ab.alloc (O:List Nat) (W:World) (o:Obj):ab O W (W.alloc o):=.of ((Below.refl _ _).alloc (zAC _) _)
theorem ab.set (W:World) (h:a.block∈O) (v:Value):ab O W (W.setCell a v):=
 ⟨rfl,rfl,rfl,by simp[World.setCell],λk _ hn=>Below.heap_setCell _ _ _ _ (λe=>hn (e▸h))⟩
theorem ab.putObj (W:World) (h:r∈O) (o:Obj):ab O W (W.putObj r o):=
 ⟨rfl,rfl,rfl,by simp,λk _ hn=>World.putObj_heap_other (λe=>hn (e▸h))⟩
theorem ab.below (h:ab O W W') {B:Nat} (hO:∀k∈O,B<=k) (hB:B<=W.heap.size):Below B W W':=
 ⟨h.os,h.tape,h.output,h.size,λk hk=>h.block k (by omega) (λhx=>by have:=hO k hx;omega)⟩
theorem ab.box (h:ab O W W') (hb:aA W g t cs) (hg:g∉O):aA W' g t cs:=
 (h.block g hb.lt hg).trans hb
theorem ab.on (h:ab O W W') (hl:a.block<W.heap.size) (ha:a.block∉O):W'.cell? a=W.cell? a:=
 World.cell?_of_block (w:=W) (h.block a.block hl ha)
theorem bnew (h:w.alloc (.cells cs e)=A):Hid (aA A w.heap.size e cs):=by rw[<-h];exact aA.new _ _ _
theorem bnew2 (h:w.alloc (.cells cs e)=A) (k:w.heap.size=n):Hid (aA A n e cs):=by rw[<-k];exact bnew h
theorem knew (h:w.alloc o=A):ab [] w A:=by rw[<-h];exact ab.alloc _ _ _
theorem ab.b {w':World} (h:ab [] w w') (k:n<=w.heap.size):Below n w w':=h.below (by simp) k
theorem wnew (h:w.alloc o=A):Hid (Below w.heap.size w A):=(knew h).b (zAC _)
theorem hidk {a b c:World} (h:Hid (Below a.heap.size a b)) (k:ab [] b c):Hid (Below a.heap.size a c):=Below.trans h.out (k.b h.out.size)
theorem wnew2 (h:w.alloc o=A) (k:A.alloc o'=B):Hid (Below w.heap.size w B):=hidk (wnew h) (knew k)
theorem wnew3 {C:World} {o'':Obj} (h:w.alloc o=A) (k:A.alloc o'=B) (j:B.alloc o''=C):Hid (Below w.heap.size w C):=hidk (wnew2 h k) (knew j)
theorem bnewk (h:w.alloc (.cells cs e)=A) (k:A.alloc o=B):Hid (aA B w.heap.size e cs):=(knew k).box (bnew h).out (by simp)
theorem aA.c1 (h:aA w r e (List.toArray (a0::l))):w.cell? ⟨r,0,none⟩=some a0:=h.cell 0 rfl
theorem aA.c2 {a1:Value} (h:aA w r e (List.toArray (a0::a1::l))):w.cell? ⟨r,0,none⟩=some a0/\w.cell? ⟨r,1,none⟩=some a1:=⟨h.cell 0 rfl,h.cell 1 rfl⟩
theorem aA.c3 {a1 a2:Value} (h:aA w r e (List.toArray (a0::a1::a2::l))):w.cell? ⟨r,0,none⟩=some a0/\w.cell? ⟨r,1,none⟩=some a1/\w.cell? ⟨r,2,none⟩=some a2:=⟨h.cell 0 rfl,h.cell 1 rfl,h.cell 2 rfl⟩
theorem aA.c4 {a1 a2 a3:Value} (h:aA w r e (List.toArray (a0::a1::a2::a3::l))):w.cell? ⟨r,0,none⟩=some a0/\w.cell? ⟨r,1,none⟩=some a1/\w.cell? ⟨r,2,none⟩=some a2/\w.cell? ⟨r,3,none⟩=some a3:=⟨h.cell 0 rfl,h.cell 1 rfl,h.cell 2 rfl,h.cell 3 rfl⟩
theorem aA.c5 {a1 a2 a3 a4:Value} (h:aA w r e (List.toArray (a0::a1::a2::a3::a4::l))):w.cell? ⟨r,0,none⟩=some a0/\w.cell? ⟨r,1,none⟩=some a1/\w.cell? ⟨r,2,none⟩=some a2/\w.cell? ⟨r,3,none⟩=some a3/\w.cell? ⟨r,4,none⟩=some a4:=⟨h.cell 0 rfl,h.cell 1 rfl,h.cell 2 rfl,h.cell 3 rfl,h.cell 4 rfl⟩
theorem aA.c6 {a1 a2 a3 a4 a5:Value} (h:aA w r e (List.toArray (a0::a1::a2::a3::a4::a5::l))):w.cell? ⟨r,0,none⟩=some a0/\w.cell? ⟨r,1,none⟩=some a1/\w.cell? ⟨r,2,none⟩=some a2/\w.cell? ⟨r,3,none⟩=some a3/\w.cell? ⟨r,4,none⟩=some a4/\w.cell? ⟨r,5,none⟩=some a5:=⟨h.cell 0 rfl,h.cell 1 rfl,h.cell 2 rfl,h.cell 3 rfl,h.cell 4 rfl,h.cell 5 rfl⟩
theorem aA.c7 {a1 a2 a3 a4 a5 a6:Value} (h:aA w r e (List.toArray (a0::a1::a2::a3::a4::a5::a6::l))):w.cell? ⟨r,0,none⟩=some a0/\w.cell? ⟨r,1,none⟩=some a1/\w.cell? ⟨r,2,none⟩=some a2/\w.cell? ⟨r,3,none⟩=some a3/\w.cell? ⟨r,4,none⟩=some a4/\w.cell? ⟨r,5,none⟩=some a5/\w.cell? ⟨r,6,none⟩=some a6:=⟨h.cell 0 rfl,h.cell 1 rfl,h.cell 2 rfl,h.cell 3 rfl,h.cell 4 rfl,h.cell 5 rfl,h.cell 6 rfl⟩
theorem aA.a1 (h:aA w r e (List.toArray (a0::l))):(∀X:aj w,X.1.cell? ⟨r,0,none⟩=some a0):=λX=>X.cell (h.cell 0 rfl)
theorem aA.a2 {a1:Value} (h:aA w r e (List.toArray (a0::a1::l))):(∀X:aj w,X.1.cell? ⟨r,0,none⟩=some a0)/\(∀X:aj w,X.1.cell? ⟨r,1,none⟩=some a1):=⟨λX=>X.cell (h.cell 0 rfl),λX=>X.cell (h.cell 1 rfl)⟩
theorem aA.a3 {a1 a2:Value} (h:aA w r e (List.toArray (a0::a1::a2::l))):(∀X:aj w,X.1.cell? ⟨r,0,none⟩=some a0)/\(∀X:aj w,X.1.cell? ⟨r,1,none⟩=some a1)/\(∀X:aj w,X.1.cell? ⟨r,2,none⟩=some a2):=⟨λX=>X.cell (h.cell 0 rfl),λX=>X.cell (h.cell 1 rfl),λX=>X.cell (h.cell 2 rfl)⟩
theorem aA.a4 {a1 a2 a3:Value} (h:aA w r e (List.toArray (a0::a1::a2::a3::l))):(∀X:aj w,X.1.cell? ⟨r,0,none⟩=some a0)/\(∀X:aj w,X.1.cell? ⟨r,1,none⟩=some a1)/\(∀X:aj w,X.1.cell? ⟨r,2,none⟩=some a2)/\(∀X:aj w,X.1.cell? ⟨r,3,none⟩=some a3):=⟨λX=>X.cell (h.cell 0 rfl),λX=>X.cell (h.cell 1 rfl),λX=>X.cell (h.cell 2 rfl),λX=>X.cell (h.cell 3 rfl)⟩
theorem aA.a5 {a1 a2 a3 a4:Value} (h:aA w r e (List.toArray (a0::a1::a2::a3::a4::l))):(∀X:aj w,X.1.cell? ⟨r,0,none⟩=some a0)/\(∀X:aj w,X.1.cell? ⟨r,1,none⟩=some a1)/\(∀X:aj w,X.1.cell? ⟨r,2,none⟩=some a2)/\(∀X:aj w,X.1.cell? ⟨r,3,none⟩=some a3)/\(∀X:aj w,X.1.cell? ⟨r,4,none⟩=some a4):=⟨λX=>X.cell (h.cell 0 rfl),λX=>X.cell (h.cell 1 rfl),λX=>X.cell (h.cell 2 rfl),λX=>X.cell (h.cell 3 rfl),λX=>X.cell (h.cell 4 rfl)⟩
theorem aA.a6 {a1 a2 a3 a4 a5:Value} (h:aA w r e (List.toArray (a0::a1::a2::a3::a4::a5::l))):(∀X:aj w,X.1.cell? ⟨r,0,none⟩=some a0)/\(∀X:aj w,X.1.cell? ⟨r,1,none⟩=some a1)/\(∀X:aj w,X.1.cell? ⟨r,2,none⟩=some a2)/\(∀X:aj w,X.1.cell? ⟨r,3,none⟩=some a3)/\(∀X:aj w,X.1.cell? ⟨r,4,none⟩=some a4)/\(∀X:aj w,X.1.cell? ⟨r,5,none⟩=some a5):=⟨λX=>X.cell (h.cell 0 rfl),λX=>X.cell (h.cell 1 rfl),λX=>X.cell (h.cell 2 rfl),λX=>X.cell (h.cell 3 rfl),λX=>X.cell (h.cell 4 rfl),λX=>X.cell (h.cell 5 rfl)⟩
theorem aA.a7 {a1 a2 a3 a4 a5 a6:Value} (h:aA w r e (List.toArray (a0::a1::a2::a3::a4::a5::a6::l))):(∀X:aj w,X.1.cell? ⟨r,0,none⟩=some a0)/\(∀X:aj w,X.1.cell? ⟨r,1,none⟩=some a1)/\(∀X:aj w,X.1.cell? ⟨r,2,none⟩=some a2)/\(∀X:aj w,X.1.cell? ⟨r,3,none⟩=some a3)/\(∀X:aj w,X.1.cell? ⟨r,4,none⟩=some a4)/\(∀X:aj w,X.1.cell? ⟨r,5,none⟩=some a5)/\(∀X:aj w,X.1.cell? ⟨r,6,none⟩=some a6):=⟨λX=>X.cell (h.cell 0 rfl),λX=>X.cell (h.cell 1 rfl),λX=>X.cell (h.cell 2 rfl),λX=>X.cell (h.cell 3 rfl),λX=>X.cell (h.cell 4 rfl),λX=>X.cell (h.cell 5 rfl),λX=>X.cell (h.cell 6 rfl)⟩
section
variable {α:Type}
def On (J:List α->List Nat->World->Prop) (ms:List α) (O:List Nat) (W W':World):Prop:=∃O',(∀k∈O',k∈O\/W.heap.size<=k)/\J ms O' W'/\ab O W W'
structure Du (P:Program) (B:Nat) (Kw:List Nat) (l:Nat) (enc:α->Value) (K:Nat) (J:List α->List Nat->World->Prop) (Jx:World->Prop):Prop where
 stay:∀{ms O W W'},J ms O W->W.heap.size<=W'.heap.size->(∀k∈O,W'.heap[k]?=W.heap[k]?)->J ms O W'
 own:∀{ms O W},J ms O W->∀k∈O,B<=k/\k<W.heap.size/\k∉Kw
 yield:∀ms m O W,J ms O W->ms.length<K->YieldAt Fence.wide 0 P l #[enc m] W λe W'=>
  (e=.returned (.bool true)/\On J (ms++[m]) O W W')\/(e=.returned (.bool false)/\Jx W'/\ab O W W')
def Dv (J:List α->List Nat->World->Prop) (Jx:World->Prop) (L:List α) (O:List Nat) (W:World) (e:Ending) (W':World):Prop:=
 (∃v,e=.returned v)/\(On J L O W W'\/(L≠ []/\Jx W'/\ab O W W'))
def Kx (I:List α->List Nat->World->Prop) (Ix:World->Prop) (ms:List α) (O:List Nat) (W:World):Exit->Act->World->Prop
 |.normal,_,W'=>On I ms O W W'
 |.ret,_,W'=>Ix W'/\ab O W W'
 |_,_,_=>False
theorem vS {P:Program} {g:Operand} {ps:Array Tmp} {assign body:Code} {Q:Exit->Act->World->Prop} {a:Act}
 {gf:Nat} {fs lb:Array Value} (hg:a.eval g=.func (.func gf) fs lb) (eg:∀args w,(callFunc gf args).run P w=.ok (.enter gf args) w)
 {enc:α->Value} (Cf:ps.size=1) (L:List α) (B:Nat) (Kw:List Nat) (hB:B<=w.heap.size) (Qa:∀k∈Kw,k<w.heap.size)
 (zde:∀(l:Nat) (W:World) (O:List Nat) (J:List α->List Nat->World->Prop) (Jx:World->Prop),Du P B Kw l enc L.length J Jx->ab [] w W->J [] O W->
   Calls P gf (fs++#[.func (.yield l) #[] #[]]++lb) W (Dv J Jx L O W))
 (I:List α->List Nat->World->Prop) (Ix:World->Prop) (O:List Nat)
 (AB:∀{ms O W W'},I ms O W->W.heap.size<=W'.heap.size->(∀k∈O,W'.heap[k]?=W.heap[k]?)->I ms O W')
 (bN:∀{ms O W},I ms O W->∀k∈O,B<=k/\k<W.heap.size/\k∉Kw)
 (Ky:∀{W W'},Ix W->(∀k,k<w.heap.size->W'.heap[k]?=W.heap[k]?)->Ix W')
 (h0:I [] O w)
 (Ax:α->Nat->Act->World->Prop)
 (Od:∀(l:Nat) (ms:List α) (x:α) (O:List Nat) (W:World) (K:Act->World->Prop),I ms O W->(∀a₁ W₁,ab [] W W₁->Ax x W.heap.size a₁ W₁->K a₁ W₁)->
   assign.wpIn (Fence.wide.inRound l) 0 P (Exit.then K (λ_ _ _=>False)) {tmps:=(ps.zip #[enc x]).foldl (λt (p,v)=>t.setIfInBounds p v) a.tmps,defers:=[]} W)
 (hAx:∀{x:α} {N:Nat} {a₁:Act} {W W':World},Ax x N a₁ W->W.heap.size<=W'.heap.size->(∀k,N<=k->k<W.heap.size->W'.heap[k]?=W.heap[k]?)->Ax x N a₁ W')
 (jV:∀(l:Nat) (ms:List α) (x:α) (O:List Nat) (N:Nat) (a₁:Act) (W:World),I ms O W->ms.length<L.length->(∀k∈O,k<N)->N<=W.heap.size->w.heap.size<=N->Ax x N a₁ W->
   body.wpIn (Fence.wide.inRound l) 0 P (Kx I Ix (ms++[x]) O W) a₁ W)
 (XB:∀(D:Nat) (O':List Nat) (W:World),(∀k∈O',k∈O\/w.heap.size<=k)->I L O' W->ab O w W->W.heap[D]?=some (.deferred (some []))->w.heap.size<=D->
   Q .normal {a with defers:={target:=.collected D,args:=#[]}::a.defers} W)
 (XC:∀(D:Nat) (W:World),L≠ []->Ix W->ab O w W->W.heap[D]?=some (.deferred (some []))->w.heap.size<=D->
   Code.ret.wp P Q {a with defers:={target:=.collected D,args:=#[]}::a.defers} W):
 (Code.rangeFunc g ps assign body).wp P Q a w:=by
 refine(wpIn_wide (n:=0)).1 (wpIn_rangeFunc ?_);intro fn uE;rw[Fence.wide_round];obtain⟨rec,xV⟩:∃rec:LoopState->Option Code->Loop,rec=λst pe=>{state:=st,pending:=pe,fn,tmps:=a.tmps,params:=ps,assign,body,defers:=w.heap.size}:=⟨_,rfl⟩
 obtain⟨W1,GM⟩:=ex1 ((w.alloc (.deferred (some []))).alloc (.loop (rec .ready none)))
 have hL1:W1.heap[w.heap.size+1]?=some (.loop (rec .ready none)):=by
  rw[<-GM];have:=World.alloc_heap_new (w.alloc (.deferred (some []))) (.loop (rec .ready none));rwa [World.size_alloc]at this
 have hK1:W1.heap[w.heap.size]?=some (.deferred (some [])):=by
  rw[<-GM];exact(Below.heap_alloc _ _ _ (by simp)).trans (World.alloc_heap_new w _)
 have bi:Below w.heap.size w W1:=by
  rw[<-GM];exact((Below.refl _ w).alloc (zAC _) _).alloc (by simp) _
 have Xp:W1.heap.size=w.heap.size+2:=by rw[<-GM];simp
 have hI1:I [] O W1:=AB h0 bi.size λk hk=>bi.block k (bN h0 k hk).2.1
 refine⟨w.heap.size+1,[{target:=.collected w.heap.size,args:=#[]}],W1,{target:=.fn (.func gf) lb,args:=fs++#[.func (.yield (w.heap.size+1)) #[] #[]]},W1,gf,
  fs++#[.func (.yield (w.heap.size+1)) #[] #[]]++lb,W1,?_,?_,?_,?_,λh=>by simp[Fence.wide]at h,?_⟩
 .rw[<-GM,xV];exact run_enterLoop_outer _ _ _ _ _
 .simp only[resolve,hg];simp[go_sem]
 .intro f' _;trivial
 .simp[invoke,go_sem,eg]
 .refine callsIn_wide.2 ((zde (w.heap.size+1) W1 (w.heap.size::(w.heap.size+1)::O)
   (λms O' W=>∃O1,O'=w.heap.size::(w.heap.size+1)::O1/\(∀k∈O1,k∈O\/W1.heap.size<=k)/\I ms O1 W/\W.heap[w.heap.size+1]?=some (.loop (rec .ready none))/\W.heap[w.heap.size]?=some (.deferred (some [])))
   (λW=>Ix W/\W.heap[w.heap.size+1]?=some (.loop (rec .done (some .ret)))/\W.heap[w.heap.size]?=some (.deferred (some [])))
   ⟨?_,?_,?_⟩ (.of bi) ⟨O,rfl,λ_=>.inl,hI1,hL1,hK1⟩).mono ?_)
  .rintro ms O' W W' ⟨O1,rfl,Oe,hi,hl,hk⟩ hs hb;exact⟨O1,rfl,Oe,AB hi hs λk h=>hb k (by simp[h]),(hb _ (by simp)).trans hl,(hb _ (by simp)).trans hk⟩
  .rintro ms O' W ⟨O1,rfl,Oe,hi,hl,hk⟩ k hm;have az:w.heap.size+1<W.heap.size:=(zAD.1 hl).1;simp only[zAS]at hm;rcases hm with rfl|rfl|hm
   .exact⟨hB,by omega,λhp=>by have:=Qa _ hp;omega⟩
   .exact⟨by omega,az,λhp=>by have:=Qa _ hp;omega⟩
   .exact bN hi k hm
  .rintro ms x O' W ⟨O1,rfl,Oe,hi,hl,hk⟩ hlen;have az:w.heap.size+1<W.heap.size:=(zAD.1 hl).1
   have hn:w.heap.size∉O1/\w.heap.size+1∉O1:=⟨λh=>by
    rcases Oe _ h with h|h
    .have:=(bN h0 _ h).2.1;omega
    .omega,λh=>by
    rcases Oe _ h with h|h
    .have:=(bN h0 _ h).2.1;omega
    .omega⟩
   have hy:=run_yield (P:=P) (args:=#[enc x]) hl (by rw[xV];exact Cf.symm);rw[xV]at hy;refine⟨fn,_,assign,body,hy,roundIn_of_wpIn uE (Od _ ms x O1 W _ hi λa₁ W₁ Td hx=>?_)⟩;have L1:W₁.heap[w.heap.size+1]?=some (.loop (rec .ready none)):=(Td.block _ az (by simp)).trans hl;have pg:W₁.heap[w.heap.size]?=some (.deferred (some [])):=(Td.block _ (by omega) (by simp)).trans hk;have Aa:w.heap.size+1<W₁.heap.size:=(zAD.1 L1).1;refine⟨_,run_beginRound L1 (by rw[xV]),?_⟩;have Gt:(W₁.putObj (w.heap.size+1) (.loop {rec .ready none with state:=.busy})).heap[w.heap.size+1]?=some (.loop {rec .ready none with state:=.busy}):=World.putObj_heap_same Aa;have j0:(W₁.putObj (w.heap.size+1) (.loop {rec .ready none with state:=.busy})).heap[w.heap.size]?=some (.deferred (some [])):=(World.putObj_heap_other (by omega)).trans pg;have hOW:∀k∈O1,k<W.heap.size:=λk h=>(bN hi k h).2.1
   have Z7:I ms O1 (W₁.putObj (w.heap.size+1) (.loop {rec .ready none with state:=.busy})):=AB hi (by simpa using Td.size) λk h=>
    (World.putObj_heap_other (λ(e:k=w.heap.size+1)=>hn.2 (by rw[<-e];exact h))).trans (Td.block k (hOW k h) (by simp))
   refine wpIn_mono (jV _ ms x O1 W.heap.size a₁ _ Z7 hlen hOW (by simpa using Td.size) (by omega) (hAx hx (by simp) λk h1 _=>World.putObj_heap_other (by omega))) ?_
   have fin:∀(jump:Option Code) (W3:World),ab O1 (W₁.putObj (w.heap.size+1) (.loop {rec .ready none with state:=.busy})) W3->
    (Instr.endRound (w.heap.size+1) jump).run P W3=.ok (.bool jump.isNone) (W3.putObj (w.heap.size+1) (.loop (rec (if jump.isNone then .ready else .done) jump)))/\
    (W3.putObj (w.heap.size+1) (.loop (rec (if jump.isNone then .ready else .done) jump))).heap[w.heap.size+1]?=some (.loop (rec (if jump.isNone then .ready else .done) jump))/\
    (W3.putObj (w.heap.size+1) (.loop (rec (if jump.isNone then .ready else .done) jump))).heap[w.heap.size]?=some (.deferred (some []))/\
    ab (w.heap.size::(w.heap.size+1)::O1) W (W3.putObj (w.heap.size+1) (.loop (rec (if jump.isNone then .ready else .done) jump))):=λjump W3 iR=>by
    have Z8:=(iR.block _ (by simpa using Aa) hn.2).trans Gt;have:=run_endRound (P:=P) jump Z8
    have hKp:ab (w.heap.size::(w.heap.size+1)::O1) W (W3.putObj (w.heap.size+1) (.loop (rec (if jump.isNone then .ready else .done) jump))):=
     (((Td.mono (O':=w.heap.size::(w.heap.size+1)::O1) (by simp)).trans' (ab.putObj W₁ (by simp) _)).trans iR (λk h=>.inl (by simp[h]))).trans' (ab.putObj W3 (by simp) _)
    refine⟨by rw[this,xV],World.putObj_heap_same (zAD.1 Z8).1,(World.putObj_heap_other (by omega)).trans ((iR.block _ (by simp;omega) hn.1).trans j0),hKp⟩
   rintro e a3 W3 hp;cases e with
   |normal=>
    obtain⟨O2,th,Sq,iR⟩:=hp;obtain⟨hr,Te,lN,Tf⟩:=fin none W3 iR;simp only[World.putObj_size]at th;have bW:=Td.size;refine⟨_,_,hr,.inl ⟨rfl,w.heap.size::(w.heap.size+1)::O2,?_,⟨O2,rfl,?_,?_,Te,lN⟩,Tf⟩⟩
    .intro k h;simp only[zAS]at h⊢;rcases h with h|h|h
     .exact .inl (.inl h)
     .exact .inl (.inr (.inl h))
     .exact(th k h).elim (λh=>.inl (.inr (.inr h))) (λh=>.inr (by omega))
    .intro k h;rcases th k h with h|h
     .exact Oe k h
     .exact .inr (by omega)
    .exact AB Sq (by simp) λk h=>World.putObj_heap_other λe=>by
      subst e;rcases th _ h with h|h
      .exact hn.2 h
      .omega
   |ret=>
    obtain⟨hx3,iR⟩:=hp;obtain⟨hr,Te,lN,Tf⟩:=fin (some .ret) W3 iR;exact⟨_,_,hr,.inr ⟨rfl,⟨Ky hx3 λk h=>World.putObj_heap_other (by omega),Te,lN⟩,Tf⟩⟩
   |exit id=>exact hp.elim
   |goto t=>exact hp.elim
   |panic ch=>exact hp.elim
   |outgrown=>exact hp.elim
  .have hOO:∀x∈w.heap.size::(w.heap.size+1)::O,x∈O\/w.heap.size<=x:=λx h=>by
    simp only[zAS]at h;rcases h with rfl|rfl|h
    .exact .inr (zAC _)
    .exact .inr (zCN _)
    .exact .inl h
   rintro e W2 ⟨⟨v,rfl⟩,(⟨O',Of,⟨O1,rfl,Oe,hi,hl,hk⟩,Tf⟩|⟨hL,⟨hx,hl,hk⟩,Tf⟩)⟩
   .have Tg:ab O w (W2.putObj (w.heap.size+1) (.loop {rec .ready none with state:=.exhausted})):=
     (((ab.of bi).trans Tf hOO).trans (ab.putObj (O:=[w.heap.size+1]) W2 (by simp) _) (by simp))
    refine⟨none,_,by have:=run_endLoop (P:=P) hl (by rw[xV];simp);rw[this,xV],XB _ O1 _ (λk h=>(Oe k h).imp id (λh=>by omega)) (AB hi (by simp) λk h=>World.putObj_heap_other λe=>?_) Tg ((World.putObj_heap_other (by omega)).trans hk) (zAC _)⟩;subst e;rcases Oe _ h with h|h
    .have:=(bN h0 _ h).2.1;omega
    .omega
   .have Tg:ab O w (W2.putObj (w.heap.size+1) (.loop {rec .done (some .ret)with state:=.exhausted})):=
     (((ab.of bi).trans Tf hOO).trans (ab.putObj (O:=[w.heap.size+1]) W2 (by simp) _) (by simp))
    exact⟨some .ret,_,by have:=run_endLoop (P:=P) hl (by rw[xV];simp);rw[this,xV],(wpIn_wide (n:=0)).2 (XC _ _ hL (Ky hx λk h=>World.putObj_heap_other (by omega)) Tg ((World.putObj_heap_other (by omega)).trans hk) (zAC _))⟩
end
end Go.Proofs.Cz
