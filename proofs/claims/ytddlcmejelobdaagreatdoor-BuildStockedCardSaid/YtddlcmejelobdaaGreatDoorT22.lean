/- A part. Conditions: none. -/
import Derived.Test.YtddlcmejelobdaaGreatDoorT21
import Derived.Carry
import Derived.Below
set_option linter.all false
namespace Go.Proofs.Cz
open Go.Conc Go.aq Go.RowKit
variable {b:Addr} {k:Nat} {v:Value}
structure Part where
 name:ByteArray
 cost:Int
 bL:Int
 lo:Int
 hi:Int
 fits:List Int
structure fK where
 parts:List Int
 lo:Int
 hi:Int
structure ai where
 ao:Int
 places:Int
 parts:List Part
 apart:List (Int×Int)
 ab:List fK
structure bS (w:World) (v:Value) (n:Nat) (a:Option Addr) (cap:Nat):Prop where
 eq:v=.slice a n cap
 le:n<=cap
 MH:cap<=maxLen
 nil:a=none->cap=0
 row:∀b,a=some b->cap=0\/∃c e fz,w.heap[b.block]?=some (.cells c e fz)
def At (w:World) (b:Addr) (k:Nat) (v:Value):Prop:=b.spot=none/\w.cell? ⟨b.block,b.off+k,none⟩=some v
def aC (w:World) (v:Value) (l:List Int):Prop:=
 ∃a cap,bS w v l.length a cap/\∀b,a=some b->∀j x,l[j]?=some x->At w b j (.int .i64 x)
def ew (w:World) (v:Value) (l:List (Int×Int)):Prop:=
 ∃a cap,bS w v l.length a cap/\∀b,a=some b->∀j x,l[j]?=some x->At w b (j*2) (.int .i64 x.1)/\At w b (j*2+1) (.int .i64 x.2)
def bT (w:World) (v:Value) (l:List Part):Prop:=
 ∃a cap,bS w v l.length a cap/\∀b,a=some b->∀j x,l[j]?=some x->At w b (j*6) (.string x.name)/\At w b (j*6+1) (.int .i64 x.cost)/\At w b (j*6+2) (.int .i64 x.bL)/\
  At w b (j*6+3) (.int .i64 x.lo)/\At w b (j*6+4) (.int .i64 x.hi)/\∃vf,At w b (j*6+5) vf/\aC w vf x.fits
def eJ (w:World) (v:Value) (l:List fK):Prop:=
 ∃a cap,bS w v l.length a cap/\∀b,a=some b->∀j x,l[j]?=some x->(∃vf,At w b (j*3) vf/\aC w vf x.parts)/\At w b (j*3+1) (.int .i64 x.lo)/\At w b (j*3+2) (.int .i64 x.hi)
def au (w:World) (v:Value) (b:ai):Prop:=
 ∃v2 v3 v4,v=.agg #[.int .i64 b.ao,.int .i64 b.places,v2,v3,v4]/\bT w v2 b.parts/\ew w v3 b.apart/\eJ w v4 b.ab
theorem At.lt {w:World} (h:At w b k v):b.block<w.heap.size:=by
 have:=h.2;unfold World.cell? at this;split at this
 .rename_i hx;exact(Array.getElem?_eq_some_iff.1 hx).1
 .cases this
def Kp (w w':World):Prop:=∀k:Nat,k<w.heap.size->w'.heap[k]?=w.heap[k]?
theorem Kp.of {w w':World} (h:Below w.heap.size w w'):Kp w w':=h.block
theorem Kp.trans {w w1 w2:World} (h:Kp w w1) (k:Kp w1 w2) (hs:w.heap.size<=w1.heap.size):Kp w w2:=fun i hi=>(k i (by omega)).trans (h i hi)
section
variable {w w':World} (hb:Kp w w')
include hb
theorem bS.later {n:Nat} {a:Option Addr} {cap:Nat} (h:bS w v n a cap):bS w' v n a cap:=
 ⟨h.eq,h.le,h.MH,h.nil,fun b e=>(h.row b e).imp id fun⟨c,t,fz,hc⟩=>⟨c,t,fz,(hb _ (Array.getElem?_eq_some_iff.1 hc).1).trans hc⟩⟩
theorem At.later (h:At w b k v):At w' b k v:=⟨h.1,(World.cell?_of_block (w:=w) (a:=⟨b.block,b.off+k,none⟩) (hb _ h.lt)).trans h.2⟩
theorem aC.later {l:List Int} (h:aC w v l):aC w' v l:=
 let⟨a,cap,h1,h2⟩:=h
 ⟨a,cap,h1.later hb,fun b e j x hj=>(h2 b e j x hj).later hb⟩
theorem ew.later {l:List (Int×Int)} (h:ew w v l):ew w' v l:=
 let⟨a,cap,h1,h2⟩:=h
 ⟨a,cap,h1.later hb,fun b e j x hj=>⟨(h2 b e j x hj).1.later hb,(h2 b e j x hj).2.later hb⟩⟩
theorem bT.later {l:List Part} (h:bT w v l):bT w' v l:=
 let⟨a,cap,h1,h2⟩:=h
 ⟨a,cap,h1.later hb,fun b e j x hj=>
   let⟨x0,x1,x2,x3,x4,vf,x5,x6⟩:=h2 b e j x hj
   ⟨x0.later hb,x1.later hb,x2.later hb,x3.later hb,x4.later hb,vf,x5.later hb,x6.later hb⟩⟩
theorem eJ.later {l:List fK} (h:eJ w v l):eJ w' v l:=
 let⟨a,cap,h1,h2⟩:=h
 ⟨a,cap,h1.later hb,fun b e j x hj=>
   let⟨⟨vf,x0,x1⟩,x2,x3⟩:=h2 b e j x hj
   ⟨⟨vf,x0.later hb,x1.later hb⟩,x2.later hb,x3.later hb⟩⟩
theorem au.later {b:ai} (h:au w v b):au w' v b:=
 let⟨v2,v3,v4,e,h2,h3,h4⟩:=h
 ⟨v2,v3,v4,e,h2.later hb,h3.later hb,h4.later hb⟩
end
end Go.Proofs.Cz
namespace Go.RowKit
variable {A w:World} {p:Prop}
theorem hid (h:p):Hid p:=h
theorem Hid.o (h:Hid p):p:=h
theorem Hid.t {a b c:World} (h:Hid (Below a.heap.size a b)) (k:Below b.heap.size b c):Hid (Below a.heap.size a c):=Below.trans h.out (k.mono h.out.size)
theorem ex1 {α:Sort _} (x:α):∃a,x=a:=⟨_,rfl⟩
theorem snew {o:Obj} (h:w.alloc o=A):A.heap.size=w.heap.size+1:=by rw[<-h];simp
theorem snew2 {o:Obj} {n:Nat} (h:w.alloc o=A) (k:w.heap.size=n):A.heap.size=n+1:=by rw[<-h];simp[k]
end Go.RowKit
