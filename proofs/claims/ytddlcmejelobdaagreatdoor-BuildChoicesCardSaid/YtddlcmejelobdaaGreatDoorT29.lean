/- A part. Conditions: none. -/
import Derived.Test.YtddlcmejelobdaaGreatDoorT27
import Derived.OwnWalk
import Derived.RangeFuncSeq
set_option linter.all false
set_option maxHeartbeats 8000000
set_option maxRecDepth 100000
namespace Go.Proofs.Cz
open Go.RowKit
variable {B k:Nat} {e:a00} {l:List Part} {p:Int} {v:fu} {w:nq} {x:Part}
def fF (p:Int) (l:List Part):Nat->List Int
 |0=>[]
 |k+1=>fF p l k++(match l[k]? with|some x=>if p∈x.fits then [(k:Int)]else []|none=>[])
abbrev et (b:aj) (p:Int):List Int:=fF p b.ptz b.ptz.length
def jC (p:Int) (l:List Part):∀k,(fF p l k).length<=k
 |0=>zAA _
 |k+1=>by
  have:=jC p l k;unfold fF;rw[zAV]
  have:(match l[k]? with|some x=>if p∈x.fits then [(k:Int)]else []|none=>[]).length<=1:=by
   split
   .split<;>simp
   .simp
  omega
def y9 (hx:l[k]?=some x) (h:p∈x.fits):fF p l (k+1)=fF p l k++[(k:Int)]:=by
 rw[fF,hx];simp[h]
def DE (hx:l[k]?=some x) (h:¬p∈x.fits):fF p l (k+1)=fF p l k:=by
 rw[fF,hx];simp[h]
def jq:(ZP.info? 3).map (λi=>(i.zero,i.size,i.bytes))=some (some (.int .i64 0),1,8):=by kernel_rfl
def dC:ZP.underlying 35=some (.slice 3):=by rw[Tz.under];exact Tryz.underlying35
def ah.bY {l:List Int} (h:w.ownsRow B e 1 v l.length (l.map (Value.int .i64))):ah w v l:=by
 obtain⟨_,⟨rfl,h0⟩|⟨g,cap,cur,rfl,_,hg,hle,jI,cB,AM⟩⟩:=h
 .have:l=[]:=zBO h0;subst this;exact⟨none,0,⟨rfl,zAA _,by unfold maxLen;omega,λ_=>rfl,(λb hb=>by cases hb)⟩,λb hb=>by cases hb⟩
 .refine⟨_,cap,⟨rfl,hle,jI,(λh=>by cases h),λb hb=>Or.inr ⟨cur,e,(0,0),by cases hb;exact hg⟩⟩,λb hb j x hj=>?_⟩;cases hb;refine⟨rfl,?_⟩;simp only[World.cell?,hg];have oB:j<l.length:=(zAO.1 hj).1;have:(cur.toList.take (l.length*1))[j]?=some (.int .i64 x):=by rw[AM];simp[hj]
  rw[Nat.mul_one,zDF,zAE oB]at this;simpa using this
def io (w:nq) (u:fu) (t:Nat):∀j x,[u][j]?=some x->(w.alloc (.cells #[u] t)).cell? ((⟨w.heap.size,0,none⟩:Addr).add j)=some x:=λj x h=>by
 match j,h with
 |0,h=>
  simp at h;subst h;show(w.alloc (.cells #[u] t)).cell? ⟨w.heap.size,0,none⟩=_;exact boxed (Below.refl _ _) 0
def Of (w:nq) (o:Obj) (u:fu) (t:Nat):∀j x,[u][j]?=some x->((w.alloc o).alloc (.cells #[u] t)).cell? ((⟨w.heap.size+1,0,none⟩:Addr).add j)=some x:=λj x h=>by
 have:=io (w.alloc o) u t j x h;rwa [World.size_alloc]at this
def iU (x:Int):∀u∈ [Value.int .i64 x],u.oneCell'=true:=λu h=>by simp at h;subst h;rfl
def ip {s:Nat} {n:Nat} {xs:List fu} (h:w.ownsRow B e s v n xs):∀k,v.ownBlock=some k->B<=k:=λk hk=>by
 obtain⟨_,⟨rfl,_⟩|⟨g,cap,cur,rfl,xw,_⟩⟩:=h
 .cases hk
 .cases hk;exact xw
def GD (w:nq) (l:List Int) (e:Ending) (w':nq):Prop:=(∃v,e=.returned v/\ah w' v l)/\Below w.heap.size w w'
def GD.mk {w w':nq} {l:List Int} {v:fu} (h:ah w' v l) (hb:Below w.heap.size w w'):GD w l (.returned v) w':=⟨⟨v,rfl,h⟩,hb⟩
def RP (w:nq) (l:List Int) (e:Ending) (w':nq):Prop:=(∃v,e=.returned v/\w'.ownsRow (w.heap.size+1) 3 1 v l.length (l.map (Value.int .i64)))/\Below w.heap.size w w'
def RP.mk {w w':nq} {l:List Int} {v:fu} (h:w'.ownsRow (w.heap.size+1) 3 1 v l.length (l.map (Value.int .i64))) (hb:Below w.heap.size w w'):RP w l (.returned v) w':=⟨⟨v,rfl,h⟩,hb⟩
def RQ (w:nq) (v:fu) (b:aj) (p:Int) (hb:az w v b) (hm:b.ptz.length<=5):Calls ZP 141 #[v,.int .i64 p] w (RP w (et b p)):=by
 obtain⟨v2,v3,v4,rfl,⟨a2,c2,h2,f2⟩,⟨a3,c3,⟨rfl,_,_,_,_⟩,_⟩,⟨a4,c4,⟨rfl,_,_,_,_⟩,_⟩⟩:=hb;have H2:Hid (bi w v2 b.ptz.length a2 c2/\_):=⟨h2,f2⟩
 obtain⟨rfl,l2,m2,n2,r2⟩:=h2;unfold maxLen at m2;obtain⟨i0,hi,m9,kd,lO⟩:=info_parts jq;go_enter ZF141,Tryz.ntmps141
 go_wp2
 go_loopw [12,5,6,7] (λi v u q wr=>∃k:Nat,k<=b.ptz.length/\i=.int .i64 k/\Hid (wr.ownsRow (w.heap.size+1) 3 1 v (fF p b.ptz k).length ((fF p b.ptz k).map (Value.int .i64)))/\Hid (Below (w.heap.size+1) (w.alloc (.cells (bx b a2 c2 a3 c3 a4 c4) 78)) wr)) (λi _ _ _ _=>b.ptz.length-(intOf i).toNat)
 case atStart=>exact⟨0,zAJ _,rfl,World.ownsRow_nil _ _ _ _,Below.refl _ _⟩
 case round=>
  obtain⟨k,hk,rfl,hO,hB⟩:=hrel;by_cases au:k<b.ptz.length
  .obtain⟨⟨blk,off,sp⟩,x,rfl,hx,x0,x1,x2,x3,x4,vf,x5,x6⟩:=H2.o.1.elem H2.o.2 au;obtain rfl:sp=none:=x0.1;have x7:=x6.later (Kp.boxed hB.o);obtain⟨af,cf,hf,_⟩:=x6;obtain⟨rfl,lf,mf,_,_⟩:=hf;have y0:=(x0.later (Kp.boxed hB.o)).2;have y1:=(x1.later (Kp.boxed hB.o)).2;have y2:=(x2.later (Kp.boxed hB.o)).2;have y3:=(x3.later (Kp.boxed hB.o)).2;have y4:=(x4.later (Kp.boxed hB.o)).2;have y5:=(x5.later (Kp.boxed hB.o)).2;simp only[<-zBD]at y0 y1 y2 y3 y4 y5;have hz:Hid (w.heap.size+1<=wr.heap.size):=by have:=hB.o.size;simp at this;exact(by omega:w.heap.size+1<=wr.heap.size)
   have kE:(k:Int)<(b.ptz.length:Int):=by omega
   have HX:=hid hx;have x8:=x7.later (Kp.alloc wr (.cells #[.string x.name,.int .i64 x.cost,.int .i64 x.d8,.int .i64 x.lo,.int .i64 x.hi,.slice af x.fits.length cf] 37));have hlen:=jC p b.ptz k;have cB:=hz.o;have HO:=hO
   go_wp2_with(first
    |(go_at_call 76;refine(im _ _ _ p x8).mono ?_;rintro e w' ⟨r,rfl,hr,rfl⟩;cases r)
    |(at_builtin;refine wpList_append_own _ rfl (.tmp 21) (.tmp 23) 35 rfl (w.heap.size+1) 3 i0 (.int .i64 0) 1 8 dC hi m9 kd lO rfl (by decide) _ _ _ rfl ((HO.o.alloc _).alloc _) ⟨_,0,none⟩ 1 1 [.int .i64 k] rfl rfl (Of _ _ _ _) (iU _) (by unfold maxLen;omega) (by omega) (by simp;omega) ?_;intro v' w1 eN gh _))
   .go_round
    case rel=>
     rw[<-DE HX.o hr.f]at HO;exact⟨k+1,by omega,by go_num,HO.o.alloc _,(Below.alloc hB.o hz.o _:Below _ _ _)⟩
    case measure=>simp[intOf];omega
   .have oK:Hid (w1.ownsRow (w.heap.size+1) 3 1 v' (fF p b.ptz (k+1)).length ((fF p b.ptz (k+1)).map (Value.int .i64))):=(by
     rw[y9 HX.o hr.t,zAV,zCR];exact eN)
    have eu:=hid (Below.grown (Below.alloc (Below.alloc hB.o hz.o _) (by simp;omega) _) gh (by simp;omega) (ip HO.o));go_round
    case rel=>exact⟨k+1,by omega,by go_num,oK,eu⟩
    case measure=>simp[intOf];omega
  .have e:k=b.ptz.length:=by omega
   subst e;go_wp2
   go_ret;exact RP.mk hO.o (Below.boxed hB.o)
end Go.Proofs.Cz

set_option maxHeartbeats 8000000
namespace Go.Proofs.Cz
open Go.RowKit
variable {A B W W' W1 W2 w:nq} {O O':List Nat} {a:Addr} {a0:fu} {cs:Array fu} {e t:a00} {g n r:Nat} {l:List fu} {o o':Obj}
def aL (w:nq) (g:Nat) (t:a00) (cs:Array fu):Prop:=w.heap[g]?=some (.cells cs t)
def aL.lt (h:aL w g t cs):g<w.heap.size:=(zAC.1 h).1
def aL.cell (h:aL w g t cs) (i:Nat) {v:fu} (hi:cs[i]?=some v):w.cell? ⟨g,i,none⟩=some v:=by
 unfold aL at h;simp only[World.cell?,h];exact hi
def aL.aH (h:aL w g t cs) (i:Nat):w.frozen? ⟨g,i,none⟩=false:=by
 unfold aL at h;simp[World.frozen?,h]
def aL.new (w:nq) (t:a00) (cs:Array fu):aL (w.alloc (.cells cs t)) w.heap.size t cs:=World.alloc_heap_new w _
def aL.set (h:aL w g t cs) (i:Nat) (v:fu):aL (w.setCell ⟨g,i,none⟩ v) g t (cs.setIfInBounds i v):=by
 unfold aL at*;obtain⟨au,hk⟩:=zAC.1 h;show(w.heap.modify g _)[g]?=_;rw[zAK (by rw[Array.size_modify];exact au),Array.getElem_modify_self,hk];simp
structure ab (O:List Nat) (W W':nq):Prop where
 os:W'.os=W.os
 tape:W'.tape=W.tape
 output:W'.output=W.output
 size:W.heap.size<=W'.heap.size
 block:∀k,k<W.heap.size->k∉O->W'.heap[k]?=W.heap[k]?
def ab.refl (O:List Nat) (W:nq):ab O W W:=⟨rfl,rfl,rfl,zAA _,λ_ _ _=>rfl⟩
def ab.trans (h:ab O W W1) (k:ab O' W1 W2) (hO:∀x∈O',x∈O\/W.heap.size<=x):ab O W W2:=
 ⟨k.os.trans h.os,k.tape.trans h.tape,k.output.trans h.output,zAM h.size k.size,λi hi hn=>
   (k.block i (zAZ hi h.size) (λhx=>(hO i hx).elim hn (λhy=>by omega))).trans (h.block i hi hn)⟩
def ab.trans' (h:ab O W W1) (k:ab O W1 W2):ab O W W2:=h.trans k λ_=>.inl
def ab.mono (h:ab O W W1) (hO:∀x∈O,x∈O'\/W.heap.size<=x):ab O' W W1:=(ab.refl O' W).trans h hO
def ab.of (h:Below W.heap.size W W'):ab O W W':=⟨h.os,h.tape,h.output,h.size,λk hk _=>h.block k hk⟩
def ab.alloc (O:List Nat) (W:nq) (o:Obj):ab O W (W.alloc o):=.of ((Below.refl _ _).alloc (zAA _) _)
def ab.set (W:nq) (h:a.block∈O) (v:fu):ab O W (W.setCell a v):=
 ⟨rfl,rfl,rfl,by simp[World.setCell],λk _ hn=>Below.heap_setCell _ _ _ _ (λe=>hn (e▸h))⟩
def ab.putObj (W:nq) (h:r∈O) (o:Obj):ab O W (W.putObj r o):=
 ⟨rfl,rfl,rfl,by simp,λk _ hn=>World.putObj_heap_other (λe=>hn (e▸h))⟩
def ab.below (h:ab O W W') {B:Nat} (hO:∀k∈O,B<=k) (hB:B<=W.heap.size):Below B W W':=
 ⟨h.os,h.tape,h.output,h.size,λk hk=>h.block k (by omega) (λhx=>by have:=hO k hx;omega)⟩
def ab.box (h:ab O W W') (hb:aL W g t cs) (hg:g∉O):aL W' g t cs:=
 (h.block g hb.lt hg).trans hb
def ab.on (h:ab O W W') (hl:a.block<W.heap.size) (ha:a.block∉O):W'.cell? a=W.cell? a:=
 World.cell?_of_block (w:=W) (h.block a.block hl ha)
def bnew (h:w.alloc (.cells cs e)=A):Hid (aL A w.heap.size e cs):=by rw[<-h];exact aL.new _ _ _
def bnew2 (h:w.alloc (.cells cs e)=A) (k:w.heap.size=n):Hid (aL A n e cs):=by rw[<-k];exact bnew h
def knew (h:w.alloc o=A):ab [] w A:=by rw[<-h];exact ab.alloc _ _ _
def ab.b {w':nq} (h:ab [] w w') (k:n<=w.heap.size):Below n w w':=h.below (by simp) k
def wnew (h:w.alloc o=A):Hid (Below w.heap.size w A):=(knew h).b (zAA _)
def hidk {a b c:nq} (h:Hid (Below a.heap.size a b)) (k:ab [] b c):Hid (Below a.heap.size a c):=Below.trans h.out (k.b h.out.size)
def wnew2 (h:w.alloc o=A) (k:A.alloc o'=B):Hid (Below w.heap.size w B):=hidk (wnew h) (knew k)
def wnew3 {C:nq} {o'':Obj} (h:w.alloc o=A) (k:A.alloc o'=B) (j:B.alloc o''=C):Hid (Below w.heap.size w C):=hidk (wnew2 h k) (knew j)
def bnewk (h:w.alloc (.cells cs e)=A) (k:A.alloc o=B):Hid (aL B w.heap.size e cs):=(knew k).box (bnew h).out (by simp)
def aL.c1 (h:aL w r e (List.toArray (a0::l))):w.cell? ⟨r,0,none⟩=some a0:=h.cell 0 rfl
def aL.c2 {a1:fu} (h:aL w r e (List.toArray (a0::a1::l))):w.cell? ⟨r,0,none⟩=some a0/\w.cell? ⟨r,1,none⟩=some a1:=⟨h.cell 0 rfl,h.cell 1 rfl⟩
def aL.c3 {a1 a2:fu} (h:aL w r e (List.toArray (a0::a1::a2::l))):w.cell? ⟨r,0,none⟩=some a0/\w.cell? ⟨r,1,none⟩=some a1/\w.cell? ⟨r,2,none⟩=some a2:=⟨h.cell 0 rfl,h.cell 1 rfl,h.cell 2 rfl⟩
def aL.c4 {a1 a2 a3:fu} (h:aL w r e (List.toArray (a0::a1::a2::a3::l))):w.cell? ⟨r,0,none⟩=some a0/\w.cell? ⟨r,1,none⟩=some a1/\w.cell? ⟨r,2,none⟩=some a2/\w.cell? ⟨r,3,none⟩=some a3:=⟨h.cell 0 rfl,h.cell 1 rfl,h.cell 2 rfl,h.cell 3 rfl⟩
def aL.c5 {a1 a2 a3 a4:fu} (h:aL w r e (List.toArray (a0::a1::a2::a3::a4::l))):w.cell? ⟨r,0,none⟩=some a0/\w.cell? ⟨r,1,none⟩=some a1/\w.cell? ⟨r,2,none⟩=some a2/\w.cell? ⟨r,3,none⟩=some a3/\w.cell? ⟨r,4,none⟩=some a4:=⟨h.cell 0 rfl,h.cell 1 rfl,h.cell 2 rfl,h.cell 3 rfl,h.cell 4 rfl⟩
def aL.c6 {a1 a2 a3 a4 a5:fu} (h:aL w r e (List.toArray (a0::a1::a2::a3::a4::a5::l))):w.cell? ⟨r,0,none⟩=some a0/\w.cell? ⟨r,1,none⟩=some a1/\w.cell? ⟨r,2,none⟩=some a2/\w.cell? ⟨r,3,none⟩=some a3/\w.cell? ⟨r,4,none⟩=some a4/\w.cell? ⟨r,5,none⟩=some a5:=⟨h.cell 0 rfl,h.cell 1 rfl,h.cell 2 rfl,h.cell 3 rfl,h.cell 4 rfl,h.cell 5 rfl⟩
def aL.c7 {a1 a2 a3 a4 a5 a6:fu} (h:aL w r e (List.toArray (a0::a1::a2::a3::a4::a5::a6::l))):w.cell? ⟨r,0,none⟩=some a0/\w.cell? ⟨r,1,none⟩=some a1/\w.cell? ⟨r,2,none⟩=some a2/\w.cell? ⟨r,3,none⟩=some a3/\w.cell? ⟨r,4,none⟩=some a4/\w.cell? ⟨r,5,none⟩=some a5/\w.cell? ⟨r,6,none⟩=some a6:=⟨h.cell 0 rfl,h.cell 1 rfl,h.cell 2 rfl,h.cell 3 rfl,h.cell 4 rfl,h.cell 5 rfl,h.cell 6 rfl⟩
def aL.a1 (h:aL w r e (List.toArray (a0::l))):(∀X:ak w,X.1.cell? ⟨r,0,none⟩=some a0):=λX=>X.cell (h.cell 0 rfl)
def aL.a2 {a1:fu} (h:aL w r e (List.toArray (a0::a1::l))):(∀X:ak w,X.1.cell? ⟨r,0,none⟩=some a0)/\(∀X:ak w,X.1.cell? ⟨r,1,none⟩=some a1):=⟨λX=>X.cell (h.cell 0 rfl),λX=>X.cell (h.cell 1 rfl)⟩
def aL.a3 {a1 a2:fu} (h:aL w r e (List.toArray (a0::a1::a2::l))):(∀X:ak w,X.1.cell? ⟨r,0,none⟩=some a0)/\(∀X:ak w,X.1.cell? ⟨r,1,none⟩=some a1)/\(∀X:ak w,X.1.cell? ⟨r,2,none⟩=some a2):=⟨λX=>X.cell (h.cell 0 rfl),λX=>X.cell (h.cell 1 rfl),λX=>X.cell (h.cell 2 rfl)⟩
def aL.a4 {a1 a2 a3:fu} (h:aL w r e (List.toArray (a0::a1::a2::a3::l))):(∀X:ak w,X.1.cell? ⟨r,0,none⟩=some a0)/\(∀X:ak w,X.1.cell? ⟨r,1,none⟩=some a1)/\(∀X:ak w,X.1.cell? ⟨r,2,none⟩=some a2)/\(∀X:ak w,X.1.cell? ⟨r,3,none⟩=some a3):=⟨λX=>X.cell (h.cell 0 rfl),λX=>X.cell (h.cell 1 rfl),λX=>X.cell (h.cell 2 rfl),λX=>X.cell (h.cell 3 rfl)⟩
def aL.a5 {a1 a2 a3 a4:fu} (h:aL w r e (List.toArray (a0::a1::a2::a3::a4::l))):(∀X:ak w,X.1.cell? ⟨r,0,none⟩=some a0)/\(∀X:ak w,X.1.cell? ⟨r,1,none⟩=some a1)/\(∀X:ak w,X.1.cell? ⟨r,2,none⟩=some a2)/\(∀X:ak w,X.1.cell? ⟨r,3,none⟩=some a3)/\(∀X:ak w,X.1.cell? ⟨r,4,none⟩=some a4):=⟨λX=>X.cell (h.cell 0 rfl),λX=>X.cell (h.cell 1 rfl),λX=>X.cell (h.cell 2 rfl),λX=>X.cell (h.cell 3 rfl),λX=>X.cell (h.cell 4 rfl)⟩
def aL.a6 {a1 a2 a3 a4 a5:fu} (h:aL w r e (List.toArray (a0::a1::a2::a3::a4::a5::l))):(∀X:ak w,X.1.cell? ⟨r,0,none⟩=some a0)/\(∀X:ak w,X.1.cell? ⟨r,1,none⟩=some a1)/\(∀X:ak w,X.1.cell? ⟨r,2,none⟩=some a2)/\(∀X:ak w,X.1.cell? ⟨r,3,none⟩=some a3)/\(∀X:ak w,X.1.cell? ⟨r,4,none⟩=some a4)/\(∀X:ak w,X.1.cell? ⟨r,5,none⟩=some a5):=⟨λX=>X.cell (h.cell 0 rfl),λX=>X.cell (h.cell 1 rfl),λX=>X.cell (h.cell 2 rfl),λX=>X.cell (h.cell 3 rfl),λX=>X.cell (h.cell 4 rfl),λX=>X.cell (h.cell 5 rfl)⟩
def aL.a7 {a1 a2 a3 a4 a5 a6:fu} (h:aL w r e (List.toArray (a0::a1::a2::a3::a4::a5::a6::l))):(∀X:ak w,X.1.cell? ⟨r,0,none⟩=some a0)/\(∀X:ak w,X.1.cell? ⟨r,1,none⟩=some a1)/\(∀X:ak w,X.1.cell? ⟨r,2,none⟩=some a2)/\(∀X:ak w,X.1.cell? ⟨r,3,none⟩=some a3)/\(∀X:ak w,X.1.cell? ⟨r,4,none⟩=some a4)/\(∀X:ak w,X.1.cell? ⟨r,5,none⟩=some a5)/\(∀X:ak w,X.1.cell? ⟨r,6,none⟩=some a6):=⟨λX=>X.cell (h.cell 0 rfl),λX=>X.cell (h.cell 1 rfl),λX=>X.cell (h.cell 2 rfl),λX=>X.cell (h.cell 3 rfl),λX=>X.cell (h.cell 4 rfl),λX=>X.cell (h.cell 5 rfl),λX=>X.cell (h.cell 6 rfl)⟩
section
variable {α:Type}
def On (J:List α->List Nat->nq->Prop) (ms:List α) (O:List Nat) (W W':nq):Prop:=∃O',(∀k∈O',k∈O\/W.heap.size<=k)/\J ms O' W'/\ab O W W'
structure GE (P:un) (B:Nat) (Og:List Nat) (l:Nat) (enc:α->fu) (K:Nat) (J:List α->List Nat->nq->Prop) (Jx:nq->Prop):Prop where
 stay:∀{ms O W W'},J ms O W->W.heap.size<=W'.heap.size->(∀k∈O,W'.heap[k]?=W.heap[k]?)->J ms O W'
 own:∀{ms O W},J ms O W->∀k∈O,B<=k/\k<W.heap.size/\k∉Og
 yield:∀ms m O W,J ms O W->ms.length<K->YieldAt Fence.wide 0 P l #[enc m] W λe W'=>
  (e=.returned (.bool true)/\On J (ms++[m]) O W W')\/(e=.returned (.bool false)/\Jx W'/\ab O W W')
def GF (J:List α->List Nat->nq->Prop) (Jx:nq->Prop) (L:List α) (O:List Nat) (W:nq) (e:Ending) (W':nq):Prop:=
 (∃v,e=.returned v)/\(On J L O W W'\/(L≠ []/\Jx W'/\ab O W W'))
def Oh (I:List α->List Nat->nq->Prop) (Ix:nq->Prop) (ms:List α) (O:List Nat) (W:nq):Exit->Act->nq->Prop
 |.normal,_,W'=>On I ms O W W'
 |.ret,_,W'=>Ix W'/\ab O W W'
 |_,_,_=>False
def za {P:un} {g:Operand} {ps:Array Tmp} {assign body:Code} {Q:Exit->Act->nq->Prop} {a:Act}
 {gf:Nat} {fs lb:Array fu} (hg:a.eval g=.func (.func gf) fs lb) (eg:∀args w,(callFunc gf args).run P w=.ok (.enter gf args) w)
 {enc:α->fu} (rQ:ps.size=1) (L:List α) (B:Nat) (Og:List Nat) (hB:B<=w.heap.size) (Um:∀k∈Og,k<w.heap.size)
 (zgQ:∀(l:Nat) (W:nq) (O:List Nat) (J:List α->List Nat->nq->Prop) (Jx:nq->Prop),GE P B Og l enc L.length J Jx->ab [] w W->J [] O W->
   Calls P gf (fs++#[.func (.yield l) #[] #[]]++lb) W (GF J Jx L O W))
 (I:List α->List Nat->nq->Prop) (Ix:nq->Prop) (O:List Nat)
 (DF:∀{ms O W W'},I ms O W->W.heap.size<=W'.heap.size->(∀k∈O,W'.heap[k]?=W.heap[k]?)->I ms O W')
 (cq:∀{ms O W},I ms O W->∀k∈O,B<=k/\k<W.heap.size/\k∉Og)
 (Oi:∀{W W'},Ix W->(∀k,k<w.heap.size->W'.heap[k]?=W.heap[k]?)->Ix W')
 (h0:I [] O w)
 (Ax:α->Nat->Act->nq->Prop)
 (RS:∀(l:Nat) (ms:List α) (x:α) (O:List Nat) (W:nq) (K:Act->nq->Prop),I ms O W->(∀a₁ W₁,ab [] W W₁->Ax x W.heap.size a₁ W₁->K a₁ W₁)->
   assign.wpIn (Fence.wide.inRound l) 0 P (Exit.then K (λ_ _ _=>False)) {tmps:=(ps.zip #[enc x]).foldl (λt (p,v)=>t.setIfInBounds p v) a.tmps,defers:=[]} W)
 (hAx:∀{x:α} {N:Nat} {a₁:Act} {W W':nq},Ax x N a₁ W->W.heap.size<=W'.heap.size->(∀k,N<=k->k<W.heap.size->W'.heap[k]?=W.heap[k]?)->Ax x N a₁ W')
 (ly:∀(l:Nat) (ms:List α) (x:α) (O:List Nat) (N:Nat) (a₁:Act) (W:nq),I ms O W->ms.length<L.length->(∀k∈O,k<N)->N<=W.heap.size->w.heap.size<=N->Ax x N a₁ W->
   body.wpIn (Fence.wide.inRound l) 0 P (Oh I Ix (ms++[x]) O W) a₁ W)
 (zbA:∀(D:Nat) (O':List Nat) (W:nq),(∀k∈O',k∈O\/w.heap.size<=k)->I L O' W->ab O w W->W.heap[D]?=some (.deferred (some []))->w.heap.size<=D->
   Q .normal {a with defers:={target:=.collected D,args:=#[]}::a.defers} W)
 (zbB:∀(D:Nat) (W:nq),L≠ []->Ix W->ab O w W->W.heap[D]?=some (.deferred (some []))->w.heap.size<=D->
   Code.ret.wp P Q {a with defers:={target:=.collected D,args:=#[]}::a.defers} W):
 (Code.rangeFunc g ps assign body).wp P Q a w:=by
 refine(wpIn_wide (n:=0)).1 (wpIn_rangeFunc ?_);intro fn xK;rw[Fence.wide_round];obtain⟨rec,AN⟩:∃rec:LoopState->Option Code->Loop,rec=λst pe=>{state:=st,pending:=pe,fn,tmps:=a.tmps,params:=ps,assign,body,defers:=w.heap.size}:=⟨_,rfl⟩
 obtain⟨W1,KI⟩:=ex1 ((w.alloc (.deferred (some []))).alloc (.loop (rec .ready none)))
 have hL1:W1.heap[w.heap.size+1]?=some (.loop (rec .ready none)):=by
  rw[<-KI];have:=World.alloc_heap_new (w.alloc (.deferred (some []))) (.loop (rec .ready none));rwa [World.size_alloc]at this
 have hK1:W1.heap[w.heap.size]?=some (.deferred (some [])):=by
  rw[<-KI];exact(Below.heap_alloc _ _ _ (by simp)).trans (World.alloc_heap_new w _)
 have bJ:Below w.heap.size w W1:=by
  rw[<-KI];exact((Below.refl _ w).alloc (zAA _) _).alloc (by simp) _
 have zbr:W1.heap.size=w.heap.size+2:=by rw[<-KI];simp
 have hI1:=DF h0 bJ.size λk hk=>bJ.block k (cq h0 k hk).2.1
 refine⟨w.heap.size+1,[{target:=.collected w.heap.size,args:=#[]}],W1,{target:=.fn (.func gf) lb,args:=fs++#[.func (.yield (w.heap.size+1)) #[] #[]]},W1,gf,
  fs++#[.func (.yield (w.heap.size+1)) #[] #[]]++lb,W1,?_,?_,?_,?_,λh=>by simp[Fence.wide]at h,?_⟩
 .rw[<-KI,AN];exact run_enterLoop_outer _ _ _ _ _
 .simp only[resolve,hg];simp[go_sem]
 .intro f' _;trivial
 .simp[invoke,go_sem,eg]
 .refine callsIn_wide.2 ((zgQ (w.heap.size+1) W1 (w.heap.size::(w.heap.size+1)::O)
   (λms O' W=>∃O1,O'=w.heap.size::(w.heap.size+1)::O1/\(∀k∈O1,k∈O\/W1.heap.size<=k)/\I ms O1 W/\W.heap[w.heap.size+1]?=some (.loop (rec .ready none))/\W.heap[w.heap.size]?=some (.deferred (some [])))
   (λW=>Ix W/\W.heap[w.heap.size+1]?=some (.loop (rec .done (some .ret)))/\W.heap[w.heap.size]?=some (.deferred (some [])))
   ⟨?_,?_,?_⟩ (.of bJ) ⟨O,rfl,λ_=>.inl,hI1,hL1,hK1⟩).mono ?_)
  .rintro ms O' W W' ⟨O1,rfl,RT,hi,hl,hk⟩ hs hb;exact⟨O1,rfl,RT,DF hi hs λk h=>hb k (by simp[h]),(hb _ (by simp)).trans hl,(hb _ (by simp)).trans hk⟩
  .rintro ms O' W ⟨O1,rfl,RT,hi,hl,hk⟩ k hm;have au:w.heap.size+1<W.heap.size:=(zAC.1 hl).1;simp only[zAQ]at hm;rcases hm with rfl|rfl|hm
   .exact⟨hB,by omega,λhp=>by have:=Um _ hp;omega⟩
   .exact⟨by omega,au,λhp=>by have:=Um _ hp;omega⟩
   .exact cq hi k hm
  .rintro ms x O' W ⟨O1,rfl,RT,hi,hl,hk⟩ hlen;have au:w.heap.size+1<W.heap.size:=(zAC.1 hl).1
   have hn:w.heap.size∉O1/\w.heap.size+1∉O1:=⟨λh=>by
    rcases RT _ h with h|h
    .have:=(cq h0 _ h).2.1;omega
    .omega,λh=>by
    rcases RT _ h with h|h
    .have:=(cq h0 _ h).2.1;omega
    .omega⟩
   have hy:=run_yield (P:=P) (args:=#[enc x]) hl (by rw[AN];exact rQ.symm);rw[AN]at hy;refine⟨fn,_,assign,body,hy,roundIn_of_wpIn xK (RS _ ms x O1 W _ hi λa₁ W₁ Xm hx=>?_)⟩;have uF:=(Xm.block _ au (by simp)).trans hl;have oT:W₁.heap[w.heap.size]?=some (.deferred (some [])):=(Xm.block _ (by omega) (by simp)).trans hk;have Gi:w.heap.size+1<W₁.heap.size:=(zAC.1 uF).1;refine⟨_,run_beginRound uF (by rw[AN]),?_⟩;have tW:(W₁.putObj (w.heap.size+1) (.loop {rec .ready none with state:=.busy})).heap[w.heap.size+1]?=some (.loop {rec .ready none with state:=.busy}):=World.putObj_heap_same Gi;have kE:(W₁.putObj (w.heap.size+1) (.loop {rec .ready none with state:=.busy})).heap[w.heap.size]?=some (.deferred (some [])):=(World.putObj_heap_other (by omega)).trans oT;have hOW:∀k∈O1,k<W.heap.size:=λk h=>(cq hi k h).2.1
   have hI2:I ms O1 (W₁.putObj (w.heap.size+1) (.loop {rec .ready none with state:=.busy})):=DF hi (by simpa using Xm.size) λk h=>
    (World.putObj_heap_other (λ(e:k=w.heap.size+1)=>hn.2 (by rw[<-e];exact h))).trans (Xm.block k (hOW k h) (by simp))
   refine wpIn_mono (ly _ ms x O1 W.heap.size a₁ _ hI2 hlen hOW (by simpa using Xm.size) (by omega) (hAx hx (by simp) λk h1 _=>World.putObj_heap_other (by omega))) ?_
   have fin:∀(jump:Option Code) (W3:nq),ab O1 (W₁.putObj (w.heap.size+1) (.loop {rec .ready none with state:=.busy})) W3->
    (Instr.endRound (w.heap.size+1) jump).run P W3=.ok (.bool jump.isNone) (W3.putObj (w.heap.size+1) (.loop (rec (if jump.isNone then .ready else .done) jump)))/\
    (W3.putObj (w.heap.size+1) (.loop (rec (if jump.isNone then .ready else .done) jump))).heap[w.heap.size+1]?=some (.loop (rec (if jump.isNone then .ready else .done) jump))/\
    (W3.putObj (w.heap.size+1) (.loop (rec (if jump.isNone then .ready else .done) jump))).heap[w.heap.size]?=some (.deferred (some []))/\
    ab (w.heap.size::(w.heap.size+1)::O1) W (W3.putObj (w.heap.size+1) (.loop (rec (if jump.isNone then .ready else .done) jump))):=λjump W3 lP=>by
    have hl3:=(lP.block _ (by simpa using Gi) hn.2).trans tW;have:=run_endRound (P:=P) jump hl3
    have hKp:ab (w.heap.size::(w.heap.size+1)::O1) W (W3.putObj (w.heap.size+1) (.loop (rec (if jump.isNone then .ready else .done) jump))):=
     (((Xm.mono (O':=w.heap.size::(w.heap.size+1)::O1) (by simp)).trans' (ab.putObj W₁ (by simp) _)).trans lP (λk h=>.inl (by simp[h]))).trans' (ab.putObj W3 (by simp) _)
    refine⟨by rw[this,AN],World.putObj_heap_same (zAC.1 hl3).1,(World.putObj_heap_other (by omega)).trans ((lP.block _ (by simp;omega) hn.1).trans kE),hKp⟩
   rintro e a3 W3 hp;cases e with
   |normal=>
    obtain⟨O2,xp,LV,lP⟩:=hp;obtain⟨hr,hl4,qv,Xn⟩:=fin none W3 lP;simp only[World.putObj_size]at xp;have cB:=Xm.size;refine⟨_,_,hr,.inl ⟨rfl,w.heap.size::(w.heap.size+1)::O2,?_,⟨O2,rfl,?_,?_,hl4,qv⟩,Xn⟩⟩
    .intro k h;simp only[zAQ]at h⊢;rcases h with h|h|h
     .exact .inl (.inl h)
     .exact .inl (.inr (.inl h))
     .exact(xp k h).elim (λh=>.inl (.inr (.inr h))) (λh=>.inr (by omega))
    .intro k h;rcases xp k h with h|h
     .exact RT k h
     .exact .inr (by omega)
    .exact DF LV (by simp) λk h=>World.putObj_heap_other λe=>by
      subst e;rcases xp _ h with h|h
      .exact hn.2 h
      .omega
   |ret=>
    obtain⟨hx3,lP⟩:=hp;obtain⟨hr,hl4,qv,Xn⟩:=fin (some .ret) W3 lP;exact⟨_,_,hr,.inr ⟨rfl,⟨Oi hx3 λk h=>World.putObj_heap_other (by omega),hl4,qv⟩,Xn⟩⟩
   |exit id=>exact hp.elim
   |goto t=>exact hp.elim
   |panic ch=>exact hp.elim
   |outgrown=>exact hp.elim
  .have hOO:∀x∈w.heap.size::(w.heap.size+1)::O,x∈O\/w.heap.size<=x:=λx h=>by
    simp only[zAQ]at h;rcases h with rfl|rfl|h
    .exact .inr (zAA _)
    .exact .inr (zCU _)
    .exact .inl h
   rintro e W2 ⟨⟨v,rfl⟩,(⟨O',RW,⟨O1,rfl,RT,hi,hl,hk⟩,Xn⟩|⟨hL,⟨hx,hl,hk⟩,Xn⟩)⟩
   .have Xo:ab O w (W2.putObj (w.heap.size+1) (.loop {rec .ready none with state:=.exhausted})):=
     (((ab.of bJ).trans Xn hOO).trans (ab.putObj (O:=[w.heap.size+1]) W2 (by simp) _) (by simp))
    refine⟨none,_,by have:=run_endLoop (P:=P) hl (by rw[AN];simp);rw[this,AN],zbA _ O1 _ (λk h=>(RT k h).imp id (λh=>by omega)) (DF hi (by simp) λk h=>World.putObj_heap_other λe=>?_) Xo ((World.putObj_heap_other (by omega)).trans hk) (zAA _)⟩;subst e;rcases RT _ h with h|h
    .have:=(cq h0 _ h).2.1;omega
    .omega
   .have Xo:ab O w (W2.putObj (w.heap.size+1) (.loop {rec .done (some .ret)with state:=.exhausted})):=
     (((ab.of bJ).trans Xn hOO).trans (ab.putObj (O:=[w.heap.size+1]) W2 (by simp) _) (by simp))
    exact⟨some .ret,_,by have:=run_endLoop (P:=P) hl (by rw[AN];simp);rw[this,AN],(wpIn_wide (n:=0)).2 (zbB _ _ hL (Oi hx λk h=>World.putObj_heap_other (by omega)) Xo ((World.putObj_heap_other (by omega)).trans hk) (zAA _))⟩
end
end Go.Proofs.Cz
