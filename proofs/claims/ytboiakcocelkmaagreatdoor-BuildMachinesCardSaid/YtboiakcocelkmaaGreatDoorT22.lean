/- A part. Conditions: none. -/
import Derived.Test.YtboiakcocelkmaaGreatDoorT21
import Derived.Carry
import Derived.Below
set_option linter.all false
namespace Go.Proofs.Cz
open Go.Conc Go.au Go.RowKit
variable {b:Addr} {k:Nat} {v:Value}
structure Part where
 name:ByteArray
 cost:Int
 fF:Int
 lo:Int
 hi:Int
 fits:List Int
structure jT where
 parts:List Int
 lo:Int
 hi:Int
structure an where
 ap:Int
 places:Int
 parts:List Part
 apart:List (Int×Int)
 aa:List jT
structure bB (w:World) (v:Value) (n:Nat) (a:Option Addr) (cap:Nat):Prop where
 eq:v=.slice a n cap
 le:n<=cap
 Oh:cap<=maxLen
 nil:a=none->cap=0
 row:∀b,a=some b->cap=0\/∃c e fz,w.heap[b.block]?=some (.cells c e fz)
def At (w:World) (b:Addr) (k:Nat) (v:Value):Prop:=b.spot=none/\w.cell? ⟨b.block,b.off+k,none⟩=some v
def ae (w:World) (v:Value) (l:List Int):Prop:=
 ∃a cap,bB w v l.length a cap/\∀b,a=some b->∀j x,l[j]?=some x->At w b j (.int .i64 x)
def d8 (w:World) (v:Value) (l:List (Int×Int)):Prop:=
 ∃a cap,bB w v l.length a cap/\∀b,a=some b->∀j x,l[j]?=some x->At w b (j*2) (.int .i64 x.1)/\At w b (j*2+1) (.int .i64 x.2)
def d9 (w:World) (v:Value) (l:List Part):Prop:=
 ∃a cap,bB w v l.length a cap/\∀b,a=some b->∀j x,l[j]?=some x->At w b (j*6) (.string x.name)/\At w b (j*6+1) (.int .i64 x.cost)/\At w b (j*6+2) (.int .i64 x.fF)/\
  At w b (j*6+3) (.int .i64 x.lo)/\At w b (j*6+4) (.int .i64 x.hi)/\∃vf,At w b (j*6+5) vf/\ae w vf x.fits
def gi (w:World) (v:Value) (l:List jT):Prop:=
 ∃a cap,bB w v l.length a cap/\∀b,a=some b->∀j x,l[j]?=some x->(∃vf,At w b (j*3) vf/\ae w vf x.parts)/\At w b (j*3+1) (.int .i64 x.lo)/\At w b (j*3+2) (.int .i64 x.hi)
def aB (w:World) (v:Value) (b:an):Prop:=
 ∃v2 v3 v4,v=.agg #[.int .i64 b.ap,.int .i64 b.places,v2,v3,v4]/\d9 w v2 b.parts/\d8 w v3 b.apart/\gi w v4 b.aa
theorem At.lt {w:World} (h:At w b k v):b.block<w.heap.size:=by
 have:=h.2;unfold World.cell? at this;split at this
 .rename_i hx;exact(Array.getElem?_eq_some_iff.1 hx).1
 .cases this
def Kp (w w':World):Prop:=∀k:Nat,k<w.heap.size->w'.heap[k]?=w.heap[k]?
theorem Kp.of {w w':World} (h:Below w.heap.size w w'):Kp w w':=h.block
theorem Kp.trans {w w1 w2:World} (h:Kp w w1) (k:Kp w1 w2) (hs:w.heap.size<=w1.heap.size):Kp w w2:=fun i hi=>(k i (by omega)).trans (h i hi)
section
variable {w w':World} (hb:Kp w w')
include hb
theorem bB.later {n:Nat} {a:Option Addr} {cap:Nat} (h:bB w v n a cap):bB w' v n a cap:=
 ⟨h.eq,h.le,h.Oh,h.nil,fun b e=>(h.row b e).imp id fun⟨c,t,fz,hc⟩=>⟨c,t,fz,(hb _ (Array.getElem?_eq_some_iff.1 hc).1).trans hc⟩⟩
theorem At.later (h:At w b k v):At w' b k v:=⟨h.1,(World.cell?_of_block (w:=w) (a:=⟨b.block,b.off+k,none⟩) (hb _ h.lt)).trans h.2⟩
theorem ae.later {l:List Int} (h:ae w v l):ae w' v l:=
 let⟨a,cap,h1,h2⟩:=h
 ⟨a,cap,h1.later hb,fun b e j x hj=>(h2 b e j x hj).later hb⟩
theorem d8.later {l:List (Int×Int)} (h:d8 w v l):d8 w' v l:=
 let⟨a,cap,h1,h2⟩:=h
 ⟨a,cap,h1.later hb,fun b e j x hj=>⟨(h2 b e j x hj).1.later hb,(h2 b e j x hj).2.later hb⟩⟩
theorem d9.later {l:List Part} (h:d9 w v l):d9 w' v l:=
 let⟨a,cap,h1,h2⟩:=h
 ⟨a,cap,h1.later hb,fun b e j x hj=>
   let⟨x0,x1,x2,x3,x4,vf,x5,x6⟩:=h2 b e j x hj
   ⟨x0.later hb,x1.later hb,x2.later hb,x3.later hb,x4.later hb,vf,x5.later hb,x6.later hb⟩⟩
theorem gi.later {l:List jT} (h:gi w v l):gi w' v l:=
 let⟨a,cap,h1,h2⟩:=h
 ⟨a,cap,h1.later hb,fun b e j x hj=>
   let⟨⟨vf,x0,x1⟩,x2,x3⟩:=h2 b e j x hj
   ⟨⟨vf,x0.later hb,x1.later hb⟩,x2.later hb,x3.later hb⟩⟩
theorem aB.later {b:an} (h:aB w v b):aB w' v b:=
 let⟨v2,v3,v4,e,h2,h3,h4⟩:=h
 ⟨v2,v3,v4,e,h2.later hb,h3.later hb,h4.later hb⟩
end
end Go.Proofs.Cz
namespace Go.RowKit
variable {A w:World} {p:Prop}
theorem hid (h:p):Hid p:=h
theorem Hid.o (h:Hid p):p:=h
theorem Hid.t {a b c:World} (h:Hid (Below a.heap.size a b)) (k:Below b.heap.size b c):Hid (Below a.heap.size a c):=Below.trans h.out (k.mono h.out.size)
theorem ex1 {α:Sort _} (x:α):∃a,x=a:=⟨_,rfl⟩
theorem snew {o:Obj} (h:w.alloc o=A):A.heap.size=w.heap.size+1:=by rw[<-h];simp
theorem snew2 {o:Obj} {n:Nat} (h:w.alloc o=A) (k:w.heap.size=n):A.heap.size=n+1:=by rw[<-h];simp[k]
end Go.RowKit
