/- A part. Conditions: none. -/
import Derived.Below
set_option linter.all false
namespace Go.RowKit
variable {A w:World} {p:Prop}
def hid (h:p):Hid p:=h
def Hid.o (h:Hid p):p:=h
def Hid.t {a b c:World} (h:Hid (Below a.heap.size a b)) (k:Below b.heap.size b c):Hid (Below a.heap.size a c):=Below.trans h.out (k.mono h.out.size)
def ex1 {α:Sort _} (x:α):∃a,x=a:=⟨_,rfl⟩
def snew {o:Obj} (h:w.alloc o=A):A.heap.size=w.heap.size+1:=by rw[<-h];simp
def snew2 {o:Obj} {n:Nat} (h:w.alloc o=A) (k:w.heap.size=n):A.heap.size=n+1:=by rw[<-h];simp[k]
end Go.RowKit
