/- A part. Conditions: none. -/
import Derived.Test.YtehbindidbgacaaGreatDoorT30
import Derived.StillTailTactics
set_option linter.all false
namespace Go.Proofs.Cz
open Go.RowKit
variable {B c n s:Nat} {P:Program} {W W':World} {e ty:TypeId} {v:Value} {xs:List Value}
attribute [local go_sem] Oper.semAt_some
theorem eK (h:W.ownsRow B e s v n xs) (hk:∀k,v.ownBlock=some k->W'.heap[k]?=W.heap[k]?):W'.ownsRow B e s v n xs:=by
 obtain⟨h1,h2⟩:=h;refine⟨h1,?_⟩;rcases h2 with h2|⟨g,cap,cur,rfl,hg,hh,r⟩
 .exact .inl h2
 .exact .inr ⟨g,cap,cur,rfl,hg,(hk g rfl).trans hh,r⟩
theorem cX (h:W.ownsRow B e s v n xs):∀k,v.ownBlock=some k->B<=k/\k<W.heap.size:=fun k hk=>by
 obtain⟨_,⟨rfl,_⟩|⟨g,cap,cur,rfl,hg,hh,_⟩⟩:=h
 .cases hk
 .cases hk;exact⟨hg,(Array.getElem?_eq_some_iff.1 hh).1⟩
theorem ak.grown {O:List Nat} {row:Option Nat} (h:W.grownBy W' row) (hr:∀k,row=some k->k∈O):ak O W W':=
 ⟨h.os,h.tape,h.output,h.size,fun k hk hn=>h.block k hk (fun e=>hn (hr k e.symm))⟩
theorem sS {w:World} {base:Nat} {t:TypeId} {i:TypeInfo} {z:Value} {size bytes:Nat} (ht:P.underlying t=some (.slice e)) (hi:P.info? e=some i) (hz:i.zero=some z)
 (tU:i.size=size) (Yv:i.bytes=bytes) (cr:w.ownsRow base e size v n xs)
 {a:Addr} {m:Nat} {news:List Value} (hl:news.length=m*size) (Db:∀j u,news[j]?=some u->w.cell? (a.add j)=some u) (h1:∀u∈news,u.oneCell'=true)
 (hm:0<m) (Yw:n+m<=maxLen) (Dc:(n+m)*bytes<=140737488355328) {v':Value} {w':World} (aV:(Builtin.append_ #[t,t] ty #[v,.slice (some a) m c]).run P w=.ok v' w'):
 ∀k,v'.ownBlock=some k->v.ownBlock=some k\/w.heap.size<=k:=by
 subst tU;subst Yv;have SM:n+m<=9223372036854775807:=by simp only[maxLen]at Yw;omega
 rcases cr.2 with⟨rfl,rfl⟩|⟨g,cap,cur,rfl,Z5,hg,L5,UU,pn,UV⟩
 .have hr:=run_append_nil (P:=P) w t ty e i z ht hi hz a m c news hl Db hm (by omega) (by have hb:=Dc;simp only[Nat.zero_add]at hb;omega);rw[hr]at aV;cases aV;intro k hk;cases hk;exact .inr (Nat.le_refl _)
 .by_cases ua:n+m<=cap
  .have oW:n*i.size+news.length<=cur.size:=by rw[hl,pn,<-Nat.add_mul];exact Nat.mul_le_mul_right _ ua
   have hr:=run_append_room (P:=P) w t ty e i ht hi g n cap cur hg a m c news hl Db h1 ua oW;rw[hr]at aV;cases aV;intro k hk;cases hk;exact .inl rfl
  .have holds:∀j u,xs[j]?=some u->w.cell? ((⟨g,0,none⟩:Addr).add j)=some u:=cr.cells (g:=g) rfl;have hr:=run_append_grow (P:=P) w t ty e i z ht hi hz ⟨g,0,none⟩ n cap xs cr.1 holds a m c news hl Db (by omega) (by omega) (growslice_fits (by omega) Dc);rw[hr]at aV;cases aV;intro k hk;cases hk;exact .inr (Nat.le_refl _)
theorem kK {F:Fence} (w:World) {ops:Array Oper} {rest:List Oper} {o:Oper} {a:Act} {Q:Exit->Act->World->Prop}
 (hg:o.guard=none) (s x:Operand) (t:TypeId) (bq:o.op=Op.call {callee:=Callee.builtin Builtin.append,args:=#[s,x],argTypes:=#[t,t]})
 (base:Nat) (e:TypeId) (i:TypeInfo) (z:Value) (size bytes:Nat) (h1:P.underlying t=some (.slice e)) (h2:P.info? e=some i) (h3:i.zero=some z) (h4:i.size=size) (h5:i.bytes=bytes) (h6:z.cells.size=size) (h7:0<size)
 (v:Value) (k:Nat) (xs:List Value) (hs:a.eval s=v) (cr:w.ownsRow base e size v k xs) (ad:Addr) (m c:Nat) (news:List Value) (hx:a.eval x=.slice (some ad) m c) (hn:news.length=m*size)
 (hc:∀j u,news[j]?=some u->w.cell? (ad.add j)=some u) (UW:∀u∈news,u.oneCell'=true) (hm:0<m) (b1:k+m<=maxLen) (b2:(k+m)*bytes<=140737488355328) (b3:base<=w.heap.size)
 (hK:∀v' w',w'.ownsRow base e size v' (k+m) (xs++news)->w.grownBy w' v.ownBlock->(∀j,v'.ownBlock=some j->v.ownBlock=some j\/w.heap.size<=j)->wpListIn F n P ops Q rest (a.put o.dst v') w'):
 wpListIn F n P ops Q (o::rest) a w:=by
 refine wpListIn_plain hg fun K Jv=>?_;obtain⟨v',w',aV,r1,r2,r3⟩:=run_append_own (P:=P) w base t o.type e i z size bytes h1 h2 h3 h4 h5 h6 h7 v k xs cr ad m c news hn hc UW b1 b2 b3;have r4:=sS h1 h2 h3 h4 h5 cr hn hc UW hm b1 b2 aV;unfold Oper.wpIn;refine⟨?_,?_⟩
 .simp[Oper.about,bq,resolve,Target.leads,Sem.run_pure]
 .rw[Oper.semAt_plain F _ _ (by rw[bq];intro c PT;cases PT)];simp[execOp,bq,resolve,invoke,builtin,hs,hx,aV,Result.andThen];exact Jv _ _ (hK v' w' r1 r2 r4)
theorem uZ {α:Type} {f:Int->List α} (h:∀x,(f x).length<=c):∀l:List Int,(l.flatMap f).length<=l.length*c
 | []=>by simp
 |x::l=>by
  rw[List.flatMap_cons,List.length_append,List.length_cons,Nat.add_mul,Nat.one_mul];have:=uZ h l;have:=h x;omega
attribute [local go_sem] Oper.semAt_some
theorem hQ (h:W.ownsRow B e s v n xs):∃a cap,v=.slice a n cap:=by
 obtain⟨_,⟨rfl,rfl⟩|⟨g,cap,cur,rfl,_⟩⟩:=h
 .exact⟨_,_,rfl⟩
 .exact⟨_,_,rfl⟩
def iw (w:World) (v:Value) (e:Ending) (w':World):Prop:=e=.returned v/\Below w.heap.size w w'
theorem fD {fn:Func} {p:Tmp} (h:fn.results=#[.cell p ty]) (tmps:Array Value) (P:Program) (w:World):
 (results fn tmps).run P w=((asAddr (tmps.getD p undef)).run P w).andThen fun a w₁=>(loadVar ty a).run P w₁:=by
 simp only[results,h];simp[Sem.run_bind,Result.andThen]
end Go.Proofs.Cz
