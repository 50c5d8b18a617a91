/- A part of the proof that BuildNeeds returns true. Conditions: none. -/
import Derived.Test.YthmokljbbkcjdaaGreatDoorT14
import Derived.Test.YthmokljbbkcjdaaGreatDoorT15
import Derived.Test.YthmokljbbkcjdaaGreatDoorT16
import Derived.WalkMore
import Derived.Deep.LoopGhost
set_option linter.unusedVariables false
set_option linter.unusedSimpArgs false
section
namespace Go.Proofs.Cz
open Go.RowKit
end Go.Proofs.Cz
end
section
namespace Go.Proofs.Cz
open Go.RowKit
end Go.Proofs.Cz
end
section
namespace Go.Proofs.Cz
open Go.RowKit
def partC (x:Part) (f:Value):List Value:=[.string x.name,.int .i64 x.cost,.int .i64 x.stock,.int .i64 x.lo,.int .i64 x.hi,f]
def partsC:List Part→List Value→List Value
 |x::l,f::fs=>partC x f++partsC l fs
 |_,_=>[]
theorem partsC_len:∀(l:List Part) (fs:List Value),fs.length=l.length→(partsC l fs).length=l.length*6
 | [],[],_=>rfl
 |x::l,f::fs,h=>by
  have:=partsC_len l fs (by simpa using h)
  rw[partsC,List.length_append,this,List.length_cons]
  show 6+_=_
  omega
theorem partsC_get:∀(l:List Part) (fs:List Value) (j r:Nat) (x:Part) (f:Value),l[j]?=some x→fs[j]?=some f→r<6→(partsC l fs)[j*6+r]?=(partC x f)[r]?
 |y::l,g::fs,0,r,x,f,hx,hf,hr=>by
  simp at hx hf
  subst hx hf
  rw[partsC,Nat.zero_mul,Nat.zero_add,List.getElem?_append_left (by show r<6;exact hr)]
 |y::l,g::fs,j+1,r,x,f,hx,hf,hr=>by
  simp only[List.getElem?_cons_succ]at hx hf
  have:=partsC_get l fs j r x f hx hf hr
  rw[partsC,List.getElem?_append_right (by show 6≤_;omega)]
  show(partsC l fs)[(j+1)*6+r-6]?=_
  rw[show(j+1)*6+r-6=j*6+r by omega]
  exact this
 | [],_,_,_,_,_,hx,_,_=>by simp at hx
 |_::_,[],_,_,_,_,_,hf,_=>by simp at hf
end Go.Proofs.Cz
end
section
namespace Go.Proofs.Cz
open Go.RowKit
theorem Box.below {A w':World} {B g:Nat} {t:TypeId} {cs:Array Value} (h:Box A g t cs) (k:Below B A w') (hg:g<B):Box w' g t cs:=(k.block g hg).trans h
theorem box_new {w:World} {P:Nat} {t:TypeId} {cs:Array Value} (h:Box w P t cs):∀j u,cs.toList[j]?=some u→w.cell? ((⟨P,0,none⟩:Addr).add j)=some u:=fun j u hu=>by
 have hadd:(⟨P,0,none⟩:Addr).add j=⟨P,j,none⟩:=by unfold Addr.add;split<;>simp_all
 rw[hadd]
 exact h.cell j (by simpa using hu)
theorem info34:(Tz.prog.info? 34).map (fun i=>(i.zero,i.size,i.bytes))=some (some (.agg #[.string .empty,.int .i64 0,.int .i64 0,.int .i64 0,.int .i64 0,.slice none 0 0]),6,72):=by kernel_rfl
theorem under22:Tz.prog.underlying 22=some (.slice 34):=by rw[Tz.under];exact Tryz.underlying22
end Go.Proofs.Cz
end
section
namespace Go.Proofs.Cz
open Go.RowKit
end Go.Proofs.Cz
end
section
namespace Go.Proofs.Cz
open Go.RowKit
def tick (t:Nat→Int):Array Value:=#[.int .i64 (t 0),.int .i64 (t 1),.int .i64 (t 2),.int .i64 (t 3),.int .i64 (t 4)]
theorem tick_get {p:Nat} (hp:p<5) (t:Nat→Int):(tick t)[p]?=some (.int .i64 (t p)):=by
 match p,hp with
 |0,_=>rfl
 |1,_=>rfl
 |2,_=>rfl
 |3,_=>rfl
 |4,_=>rfl
def tookTo (m t:Nat→Int):Nat→Int
 |0=>0
 |k+1=>tookTo m t k+t (m k).toNat
theorem tookTo_le {m t:Nat→Int} (ht:∀i,0≤t i∧t i≤20):∀k,0≤tookTo m t k∧tookTo m t k≤20*k
 |0=>by simp[tookTo]
 |k+1=>by
  have h1:=tookTo_le (m:=m) ht k
  have h2:=ht (m k).toNat
  unfold tookTo
  omega
set_option maxHeartbeats 1000000 in
set_option maxRecDepth 20000 in
theorem took_any (w:World) (v2 v3 v4:Value) (b:Book) (N:Nat) (hN:b.places=N) (hN4:N≤4) (m t:Nat→Int) (hm:∀i,i<N→0≤m i∧m i<5) (ht:∀i,0≤t i∧t i≤20):
 Calls Tz.prog 102 #[.agg #[.int .i64 b.beat,.int .i64 b.places,v2,v3,v4],.agg (mac m),.agg (tick t)] w (RetV w (.int .i64 (tookTo m t N))):=by
 rw[hN]
 obtain⟨A1,hA1⟩:∃A,w.alloc (.cells #[.int .i64 b.beat,.int .i64 N,v2,v3,v4] 79)=A:=⟨_,rfl⟩
 obtain⟨A2,hA2⟩:∃A,A1.alloc (.cells (mac m) 91)=A:=⟨_,rfl⟩
 obtain⟨A3,hA3⟩:∃A,A2.alloc (.cells (tick t) 111)=A:=⟨_,rfl⟩
 have hs1:A1.heap.size=w.heap.size+1:=by rw[←hA1];simp
 have hs2:A2.heap.size=w.heap.size+1+1:=by rw[←hA2];simp[hs1]
 have b1:Box A3 w.heap.size 79 #[.int .i64 b.beat,.int .i64 N,v2,v3,v4]:=by
  rw[←hA3];refine(Keep.alloc [] _ _).box ?_ (by simp)
  rw[←hA2];refine(Keep.alloc [] _ _).box ?_ (by simp)
  rw[←hA1];exact Box.new _ _ _
 have B2:Hid (Box A3 (w.heap.size+1) 91 (mac m)):=by
  rw[←hA3];refine(Keep.alloc [] _ _).box ?_ (by simp)
  rw[←hA2,←hs1];exact Box.new _ _ _
 have B3:Hid (Box A3 (w.heap.size+1+1) 111 (tick t)):=by rw[←hA3,←hs2];exact Box.new _ _ _
 have HW:Hid (Below w.heap.size w A3):=by rw[←hA3,←hA2,←hA1];exact(((Keep.alloc [] _ _).allocs _).allocs _).below (by simp) (Nat.le_refl _)
 have z1:A3.cell? ⟨w.heap.size,1,none⟩=some (.int .i64 N):=b1.cell 1 rfl
 simp only[mac,tick]at hA2 hA3⊢
 clear b1 hN
 go_enter Tz.func102,Tz.ntmps102
 go_wp2
 clear hA1 hA2 hA3 hs1 hs2
 go_loop [12,8,7] (fun i _ s=>∃k:Nat,k≤N∧i=.int .i64 k∧s=.int .i64 (tookTo m t k)) (fun i _ _=>N-(intOf i).toNat)
 case atStart=>exact⟨0,Nat.zero_le _,rfl,rfl⟩
 case round=>
  obtain⟨k,hk,rfl,rfl⟩:=hrel
  by_cases hlt:k<N
  ·have hk4:k<4:=by omega
   have c2:A3.cell? ⟨w.heap.size+1,k,none⟩=some (.int .i64 (m k)):=B2.out.cell k (mac_get hk4 _)
   obtain⟨j,hj⟩:∃j:Nat,m k=(j:Int):=⟨(m k).toNat,by have:=(hm k hlt).1;omega⟩
   have hj5:j<5:=by have:=(hm k hlt).2;omega
   rw[hj]at c2
   have c3:A3.cell? ⟨w.heap.size+1+1,j,none⟩=some (.int .i64 (t j)):=B3.out.cell j (tick_get hj5 _)
   have hb:=tookTo_le (m:=m) ht k
   have hb2:=ht j
   have HS:Hid (tookTo m t (k+1)=tookTo m t k+t j):=by show tookTo m t k+t (m k).toNat=_;rw[hj];simp
   go_wp2
   go_round
   case rel=>exact⟨k+1,by omega,by go_num,by rw[HS.out]⟩
   case measure=>simp[intOf];omega
  ·have e:k=N:=by omega
   subst e
   go_wp2
   go_ret
   exact⟨rfl,HW.out⟩
end Go.Proofs.Cz
end
section
namespace Go.Proofs.Cz
open Go.RowKit
theorem index0_any (w:World) (f:Value) (a:Option Addr) (c:Nat):Calls Tz.prog 139 #[.slice a 0 c,f] w (Pure1 w (.int .i64 (-1))):=by
 go_enter Tz.func139,Tz.ntmps139
 go_wp2
 go_loop [8,5] (fun i _=>i=.int .i64 0) (fun _ _=>0)
 case atStart=>rfl
 case round=>
  subst hrel
  go_wp2
  go_ret
  exact Pure1.of _ rfl
theorem contains0_any (w:World) (f:Value) (a:Option Addr) (c:Nat):Calls Tz.prog 131 #[.slice a 0 c,f] w (Pure1 w (.bool false)):=by
 go_enter Tz.func131,Tz.ntmps131
 go_wp2_with(go_at_call 139;refine(index0_any _ _ _ _).mono ?_;rintro e w' ⟨rfl,rfl⟩)
 go_ret
 exact Pure1.of _ rfl
set_option maxHeartbeats 1000000 in
set_option maxRecDepth 20000 in
theorem agrees0_any (w:World) (v2 v3:Value) (b:Book) (a4:Option Addr) (c4:Nat) (t:Nat→Int):
 Calls Tz.prog 114 #[.agg #[.int .i64 b.beat,.int .i64 b.places,v2,v3,.slice a4 0 c4],.agg (tick t)] w (RetV w (.bool true)):=by
 obtain⟨A1,hA1⟩:∃A,w.alloc (.cells #[.int .i64 b.beat,.int .i64 b.places,v2,v3,.slice a4 0 c4] 79)=A:=⟨_,rfl⟩
 obtain⟨A2,hA2⟩:∃A,A1.alloc (.cells (tick t) 111)=A:=⟨_,rfl⟩
 have b1:Box A2 w.heap.size 79 #[.int .i64 b.beat,.int .i64 b.places,v2,v3,.slice a4 0 c4]:=by
  rw[←hA2];refine(Keep.alloc [] _ _).box ?_ (by simp)
  rw[←hA1];exact Box.new _ _ _
 have HW:Hid (Below w.heap.size w A2):=by rw[←hA2,←hA1];exact((Keep.alloc [] _ _).allocs _).below (by simp) (Nat.le_refl _)
 have hs1:A1.heap.size=w.heap.size+1:=by rw[←hA1];simp
 have z4:A2.cell? ⟨w.heap.size,4,none⟩=some (.slice a4 0 c4):=b1.cell 4 rfl
 simp only[tick]at hA2⊢
 clear b1
 go_enter Tz.func114,Tz.ntmps114
 go_wp2_with(go_at_call 131;refine(contains0_any _ _ _ _).mono ?_;rintro e w' ⟨rfl,rfl⟩)
 go_ret
 exact⟨rfl,HW.out⟩
end Go.Proofs.Cz
end
section
namespace Go.Proofs.Cz
open Go.RowKit
attribute [local go_sem] Oper.semAt_some
def span (lo:Int):Nat→List Int
 |0=>[]
 |n+1=>lo::span (lo+1) n
def hist (ag:(Nat→Int)→Bool) (l:List Part):Nat→Nat→(Nat→Int)→List (Nat→Int)
 |0,_,t=>if ag t then [t]else []
 |n+1,i,t=>match l[i]? with
  |some x=>(span x.lo (x.hi+1-x.lo).toNat).flatMap fun k=>hist ag l n (i+1) (upd t i k)
  |none=>[]
structure HItr (W0 W:World) (b:Book) (v2 v3 v4 y:Value) (g1 g2 g3 g4:Nat) (O:List Nat):Prop where
 b1:Box W g1 79 #[.int .i64 b.beat,.int .i64 b.places,v2,v3,v4]
 b3:Box W g3 153 #[y]
 b4:Box W g4 80 #[.func (.func 113) #[] #[ptr g1,ptr g2,ptr g3,ptr g4]]
 n1:g1∉O
 n2:g2∉O
 n3:g3∉O
 n4:g4∉O
 d1:g1≠g2
 d3:g3≠g2
 d4:g4≠g2
 ge:W0.heap.size≤g2
 old:Below W0.heap.size W0 W
 geO:∀k∈O,W0.heap.size≤k
theorem HItr.on {W0 W W':World} {b:Book} {v2 v3 v4 y:Value} {g1 g2 g3 g4:Nat} {O O':List Nat} (h:HItr W0 W b v2 v3 v4 y g1 g2 g3 g4 O) (h2:g2<W.heap.size)
 (hk:Keep (g2::O) W W') (hO:∀k∈O',k∈O∨W.heap.size≤k):HItr W0 W' b v2 v3 v4 y g1 g2 g3 g4 O':=by
 have l1:=h.b1.lt;have l3:=h.b3.lt;have l4:=h.b4.lt
 have hW:=h.old.size
 refine⟨hk.box h.b1 (by simp[h.d1,h.n1]),hk.box h.b3 (by simp[h.d3,h.n3]),hk.box h.b4 (by simp[h.d4,h.n4]),?_,?_,?_,?_,h.d1,h.d3,h.d4,h.ge,
  h.old.trans (hk.below (fun k hx=>by rcases List.mem_cons.1 hx with rfl|hx;exact h.ge;exact h.geO k hx) hW),fun k hx=>(hO k hx).elim (h.geO k) (fun hx=>by omega)⟩
 ·intro hx;exact(hO _ hx).elim h.n1 (fun hx=>by omega)
 ·intro hx;exact(hO _ hx).elim h.n2 (fun hx=>by omega)
 ·intro hx;exact(hO _ hx).elim h.n3 (fun hx=>by omega)
 ·intro hx;exact(hO _ hx).elim h.n4 (fun hx=>by omega)
def HNextEnd (J:List (Nat→Int)→List Nat→World→Prop) (Jx:World→Prop) (g2 P i:Nat) (L:List (Nat→Int)) (t:Nat→Int) (ms:List (Nat→Int)) (O:List Nat) (W:World) (e:Ending) (W':World):Prop:=
 (e=.returned (.bool true)∧∃t',(∀j,j<i→t' j=t j)∧(∀j,P≤j→t' j=0)∧Box W' g2 111 (tick t')∧∃O',(∀k∈O',k∈O∨W.heap.size≤k)∧J (ms++L) O' W'∧Keep (g2::O) W W')∨
 (e=.returned (.bool false)∧L≠ []∧Jx W'∧Keep (g2::O) W W')
abbrev RoundsH (W0:World) (l K:Nat) (J:List (Nat→Int)→List Nat→World→Prop) (Jx:World→Prop):Prop:=
 Rounds Tz.prog W0.heap.size [] l (fun t=>.agg (tick t)) K J Jx
set_option maxHeartbeats 1000000 in
set_option maxRecDepth 20000 in
theorem hnext_done {W0 W:World} {b:Book} {v3 v4:Value} {a2:Option Addr} {c2 g1 g2 g3 g4 l K:Nat} {O:List Nat} {J:List (Nat→Int)→List Nat→World→Prop} {Jx:World→Prop} {t:Nat→Int} {ms:List (Nat→Int)} {i:Nat} {ag:(Nat→Int)→Bool}
 (hi:i=b.parts.length) (hz:∀j,b.parts.length≤j→t j=0)
 (hag:∀X,Below W0.heap.size W0 X→Calls Tz.prog 114 #[.agg #[.int .i64 b.beat,.int .i64 b.places,.slice a2 b.parts.length c2,v3,v4],.agg (tick t)] X (RetV X (.bool (ag t))))
 (hR:RoundsH W0 l K J Jx) (hI:HItr W0 W b (.slice a2 b.parts.length c2) v3 v4 (.func (.yield l) #[] #[]) g1 g2 g3 g4 O) (h2:Box W g2 111 (tick t)) (hJ:J ms O W) (hlen:ms.length+(if ag t then 1 else 0)≤K):
 Calls Tz.prog 113 #[.int .i64 i,ptr g1,ptr g2,ptr g3,ptr g4] W (HNextEnd J Jx g2 b.parts.length i (if ag t then [t]else []) t ms O W):=by
 have y0:W.cell? ⟨g1,0,none⟩=some (.int .i64 b.beat):=hI.b1.cell 0 rfl
 have y1:W.cell? ⟨g1,1,none⟩=some (.int .i64 b.places):=hI.b1.cell 1 rfl
 have y2:W.cell? ⟨g1,2,none⟩=some (.slice a2 b.parts.length c2):=hI.b1.cell 2 rfl
 have y3:W.cell? ⟨g1,3,none⟩=some v3:=hI.b1.cell 3 rfl
 have y4:W.cell? ⟨g1,4,none⟩=some v4:=hI.b1.cell 4 rfl
 have x0:W.cell? ⟨g2,0,none⟩=some (.int .i64 (t 0)):=h2.cell 0 rfl
 have x1:W.cell? ⟨g2,1,none⟩=some (.int .i64 (t 1)):=h2.cell 1 rfl
 have x2:W.cell? ⟨g2,2,none⟩=some (.int .i64 (t 2)):=h2.cell 2 rfl
 have x3:W.cell? ⟨g2,3,none⟩=some (.int .i64 (t 3)):=h2.cell 3 rfl
 have x4:W.cell? ⟨g2,4,none⟩=some (.int .i64 (t 4)):=h2.cell 4 rfl
 have HI:Hid (HItr W0 W b (.slice a2 b.parts.length c2) v3 v4 (.func (.yield l) #[] #[]) g1 g2 g3 g4 O):=hI
 have H2:Hid (Box W g2 111 (tick t)):=h2
 have HZ:Hid (∀j,b.parts.length≤j→t j=0):=hz
 have hC:=hag W hI.old
 clear hI h2 hz hag
 subst hi
 cases he:ag t with
 |false=>
  rw[he]at hC
  simp only[tick]at hC
  go_enter Tz.func113,Tz.ntmps113
  go_wp2_with(go_at_call 114
              refine hC.mono ?_
              rintro e w1 ⟨rfl,hb1⟩
              have HB:Hid (Below W.heap.size W w1):=hb1
              clear hb1)
  go_ret
  exact .inl ⟨rfl,t,fun _ _=>rfl,HZ.out,(Keep.of (O:=[]) HB.out).box H2.out (by simp),O,fun _ h=>.inl h,by simpa using hR.stay hJ HB.out.size (fun k hk=>HB.out.block k (hR.own hJ k hk).2.1),.of HB.out⟩
 |true=>
  rw[he]at hC
  simp only[tick]at hC
  have HL:Hid (ms.length<K):=(by simp[he]at hlen;exact(by omega:ms.length<K))
  have HJ:Hid (J ms O W):=hJ
  clear hlen hJ
  refine(callsIn_wide (n:=0)).1 ?_
  refine callsIn_of_wp Tz.func113 rfl trivial ?_
  simp only[Tz.ntmps113,List.size_toArray,List.length_cons,List.length_nil,Nat.reduceAdd,Nat.reduceSub,Array.replicate_succ,
   Array.replicate_zero,List.push_toArray,List.append_toArray,List.nil_append,List.cons_append]
  gi_wp2_with(refine⟨trivial,rfl,?_⟩
              gi_at_call 114
              refine(callsIn_wide.2 hC).mono ?_
              rintro e w1 ⟨rfl,hb1⟩
              have HB:Hid (Below W.heap.size W w1):=hb1
              have HJ1:Hid (J ms O w1):=hR.stay HJ.out hb1.size (fun k hk=>hb1.block k (hR.own HJ.out k hk).2.1)
              have HI1:Hid (HItr W0 w1 b (.slice a2 b.parts.length c2) v3 v4 (.func (.yield l) #[] #[]) g1 g2 g3 g4 O):=HI.out.on H2.out.lt (.of hb1) (fun _ h=>.inl h)
              have H21:Hid (Box w1 g2 111 (tick t)):=(Keep.of (O:=[]) hb1).box H2.out (by simp)
              obtain⟨fn,tmps,assign,body,hy,hr⟩:=hR.yield ms t O w1 HJ1.out HL.out
              simp only[tick]at hy
              have q0:w1.cell? ⟨g3,0,none⟩=some (.func (.yield l) #[] #[]):=HI1.out.b3.cell 0 rfl
              have x0:w1.cell? ⟨g2,0,none⟩=some (.int .i64 (t 0)):=H21.out.cell 0 rfl
              have x1:w1.cell? ⟨g2,1,none⟩=some (.int .i64 (t 1)):=H21.out.cell 1 rfl
              have x2:w1.cell? ⟨g2,2,none⟩=some (.int .i64 (t 2)):=H21.out.cell 2 rfl
              have x3:w1.cell? ⟨g2,3,none⟩=some (.int .i64 (t 3)):=H21.out.cell 3 rfl
              have x4:w1.cell? ⟨g2,4,none⟩=some (.int .i64 (t 4)):=H21.out.cell 4 rfl
              clear hb1 hC)
  refine⟨rfl,hr.mono ?_⟩
  rintro e W' (⟨rfl,O',hO',hJ',hk⟩|⟨rfl,hx,hk⟩)
  ·gi_wp2
   go_ret
   refine .inl ⟨rfl,t,fun _ _=>rfl,HZ.out,hk.box H21.out HI1.out.n2,O',(fun k h=>(hO' k h).imp id (fun h=>Nat.le_trans HB.out.size h)),by simpa using hJ',((Keep.of (O:=O) HB.out).trans' hk).mono fun x hx=>.inl (List.mem_cons_of_mem _ hx)⟩
  ·gi_wp2
   go_ret
   exact .inr ⟨rfl,(by simp),hx,((Keep.of (O:=O) HB.out).trans' hk).mono fun x hx=>.inl (List.mem_cons_of_mem _ hx)⟩
theorem hist_flat {ag:(Nat→Int)→Bool} {l:List Part} {n i:Nat} {t:Nat→Int} {x:Part} (hx:l[i]?=some x):
 hist ag l (n+1) i t=(span x.lo (x.hi+1-x.lo).toNat).flatMap fun k=>hist ag l n (i+1) (upd t i k):=by rw[hist,hx]
theorem hist_same {ag:(Nat→Int)→Bool} {l:List Part}:∀(n i:Nat) (t t':Nat→Int),i+n=l.length→(∀j,j<i→t' j=t j)→(∀j,l.length≤j→t j=0)→(∀j,l.length≤j→t' j=0)→
 hist ag l n i t'=hist ag l n i t
 |0,i,t,t',hn,h1,h2,h3=>by
  have:t'=t:=by
   funext j
   by_cases hj:j<i
   ·exact h1 j hj
   ·rw[h2 j (by omega),h3 j (by omega)]
  rw[this]
 |n+1,i,t,t',hn,h1,h2,h3=>by
  have hx:l[i]?=some l[i]:=List.getElem?_eq_getElem (by omega)
  rw[hist_flat hx,hist_flat hx]
  congr 1
  funext k
  refine hist_same n (i+1) _ _ (by omega) (fun j hj=>?_) (fun j hj=>?_) (fun j hj=>?_)
  ·by_cases e:j=i
   ·subst e;rw[upd_self,upd_self]
   ·rw[upd_other _ _ e,upd_other _ _ e];exact h1 j (by omega)
  ·rw[upd_other _ _ (by omega)];exact h2 j hj
  ·rw[upd_other _ _ (by omega)];exact h3 j hj
theorem span_succ (lo:Int):∀n:Nat,span lo (n+1)=span lo n++[lo+n]
 |0=>by simp[span]
 |n+1=>by
  have:=span_succ (lo+1) n
  show lo::span (lo+1) (n+1)=_
  rw[this]
  show _=lo::(span (lo+1) n)++_
  rw[List.cons_append]
  congr 3
  push_cast
  omega
theorem tick_set {p:Nat} (hp:p<5) (t:Nat→Int) (k:Int):(tick t).setIfInBounds p (.int .i64 k)=tick (upd t p k):=by
 match p,hp with
 |0,_=>simp[tick,upd]
 |1,_=>simp[tick,upd]
 |2,_=>simp[tick,upd]
 |3,_=>simp[tick,upd]
 |4,_=>simp[tick,upd]
end Go.Proofs.Cz
end
section
namespace Go.Proofs.Cz
open Go.RowKit
theorem span_more (lo:Int) (k:Nat):∀d:Nat,∃r,span lo (k+d)=span lo k++r
 |0=>⟨[],by simp⟩
 |d+1=>by
  obtain⟨r,h⟩:=span_more lo k d
  exact⟨r++[lo+(k+d:Nat)],by rw[←Nat.add_assoc,span_succ,h,List.append_assoc]⟩
theorem span_flat {α:Type} (lo:Int) (f:Int→List α) {k T:Nat} (h:k<T):((span lo k).flatMap f).length+(f (lo+k)).length≤((span lo T).flatMap f).length:=by
 obtain⟨r,e⟩:=span_more lo (k+1) (T-(k+1))
 rw[show k+1+(T-(k+1))=T by omega]at e
 rw[e,List.flatMap_append,List.length_append,span_succ,List.flatMap_append,List.length_append]
 simp
theorem span_ne {α:Type} (lo:Int) (f:Int→List α) {k T:Nat} (h:k<T) (hf:f (lo+k)≠ []):(span lo T).flatMap f≠ []:=fun e=>by
 have h1:=span_flat lo f h
 rw[e,List.length_nil]at h1
 have:=List.length_pos_iff.2 hf
 omega
set_option maxHeartbeats 1000000 in
set_option maxRecDepth 20000 in
theorem hnext_any {W0:World} {b:Book} {v3 v4:Value} {a2:Option Addr} {c2 g1 g2 g3 g4 l K:Nat} {J:List (Nat→Int)→List Nat→World→Prop} {Jx:World→Prop} {ag:(Nat→Int)→Bool}
 (hb:BookAt W0 (.agg #[.int .i64 b.beat,.int .i64 b.places,.slice a2 b.parts.length c2,v3,v4]) b) (hv:Valid b)
 (hag:∀X t,Below W0.heap.size W0 X→Calls Tz.prog 114 #[.agg #[.int .i64 b.beat,.int .i64 b.places,.slice a2 b.parts.length c2,v3,v4],.agg (tick t)] X (RetV X (.bool (ag t))))
 (hR:RoundsH W0 l K J Jx):
 ∀(n i:Nat),i+n=b.parts.length→∀(t:Nat→Int) (ms:List (Nat→Int)) (O:List Nat) (W:World),(∀j,b.parts.length≤j→t j=0)→
  HItr W0 W b (.slice a2 b.parts.length c2) v3 v4 (.func (.yield l) #[] #[]) g1 g2 g3 g4 O→Box W g2 111 (tick t)→J ms O W→ms.length+(hist ag b.parts n i t).length≤K→
  Calls Tz.prog 113 #[.int .i64 i,ptr g1,ptr g2,ptr g3,ptr g4] W (HNextEnd J Jx g2 b.parts.length i (hist ag b.parts n i t) t ms O W):=by
 intro n
 induction n with
 |zero=>exact fun i hi t ms O W hz hI h2 hJ hlen=>hnext_done (by omega) hz (fun X hX=>hag X t hX) hR hI h2 hJ (by
   simp only[hist]at hlen
   cases he:ag t<;>simp[he]at hlen⊢<;>omega)
 |succ n ih=>
  intro i hi t ms O W hz hI h2 hJ hlen
  have hm:=hv.parts.many
  have hi5:i<5:=by omega
  have hil:i<b.parts.length:=by omega
  obtain⟨v2',_,_,hvv,⟨a2',c2',hS,hE⟩,_,_⟩:=hb
  obtain⟨⟨blk,off,sp⟩,x,hax,hx,x0,x1,x2,x3,x4,vf,x5,x6⟩:=hS.elem hE hil
  obtain rfl:sp=none:=x0.1
  have he:=hS.eq
  simp only[Value.agg.injEq,Array.mk.injEq,List.cons.injEq,true_and,and_true]at hvv
  obtain⟨rfl,rfl,rfl⟩:=hvv
  simp only[Value.slice.injEq,true_and]at he
  obtain⟨rfl,rfl⟩:=he
  subst hax
  have HX:Hid (b.parts[i]?=some x):=hx
  have hpo:=(hv.parts.all i x hil hx).1
  have hlo:0≤x.lo∧x.lo≤x.hi∧x.hi≤20:=hpo.time
  have X3:Hid (At W0 ⟨blk,off,none⟩ (i*6+3) (.int .i64 x.lo)):=x3
  have X4:Hid (At W0 ⟨blk,off,none⟩ (i*6+4) (.int .i64 x.hi)):=x4
  have HI:Hid (HItr W0 W b (.slice (some ⟨blk,off,none⟩) b.parts.length c2) v3 v4 (.func (.yield l) #[] #[]) g1 g2 g3 g4 O):=hI
  have H2:Hid (Box W g2 111 (tick t)):=h2
  have y2:W.cell? ⟨g1,2,none⟩=some (.slice (some ⟨blk,off,none⟩) b.parts.length c2):=hI.b1.cell 2 rfl
  have y3:=(x3.later (Kp.of hI.old)).2
  simp only[←Nat.add_assoc]at y3
  have z0:W.cell? ⟨g2,i,none⟩=some (.int .i64 (t i)):=h2.cell i (tick_get hi5 t)
  have f0:W.frozen? ⟨g2,i,none⟩=false:=h2.warm i
  have hne:¬(i:Int)=(b.parts.length:Int):=by omega
  have hii:(i:Int)<(b.parts.length:Int):=by omega
  have hbf:((i:Int)==(b.parts.length:Int))=false:=by simp;omega
  rw[hist_flat hx]at hlen⊢
  have HLen:Hid (ms.length+((span x.lo (x.hi+1-x.lo).toNat).flatMap fun k=>hist ag b.parts n (i+1) (upd t i k)).length≤K):=hlen
  have HJ:Hid (J ms O W):=hJ
  have HZ:Hid (∀j,b.parts.length≤j→t j=0):=hz
  have IH:=ih
  have hc2:Hid (b.parts.length≤c2∧c2≤maxLen):=⟨hS.le,hS.big⟩
  clear hlen hJ hz ih hI h2 x0 x1 x2 x3 x4 x5 x6 hx hS hE hpo hv
  go_enter Tz.func113,Tz.ntmps113
  go_wp2
  obtain⟨WL,hWL⟩:∃X,W.setCell ⟨g2,i,none⟩ (.int .i64 x.lo)=X:=⟨_,rfl⟩
  rw[hWL]
  have HKL:Hid (Keep [g2] W WL):=by rw[←hWL];exact Keep.set W (by simp) _
  have HL2:Hid (Box WL g2 111 (tick (upd t i x.lo))):=by have:=H2.out.set i (.int .i64 x.lo);rwa [tick_set hi5,hWL]at this
  have HIL:Hid (HItr W0 WL b (.slice (some ⟨blk,off,none⟩) b.parts.length c2) v3 v4 (.func (.yield l) #[] #[]) g1 g2 g3 g4 O):=HI.out.on H2.out.lt (HKL.out.mono (by simp)) (fun _ h=>.inl h)
  have HJL:Hid (J ms O WL):=hR.stay HJ.out HKL.out.size (fun k hk=>HKL.out.block k (hR.own HJ.out k hk).2.1 (fun h=>HI.out.n2 (by simp at h;rw[←h];exact hk)))
  clear y2 y3 z0 f0 hWL
  go_loopw [32] (fun _ wr=>∃(k:Nat) (t':Nat→Int) (O':List Nat),k≤(x.hi+1-x.lo).toNat∧Hid ((∀j,j<i→t' j=t j)∧t' i=x.lo+k∧(∀j,b.parts.length≤j→t' j=0)∧Box wr g2 111 (tick t')∧
   J (ms++(span x.lo k).flatMap fun q=>hist ag b.parts n (i+1) (upd t i q)) O' wr∧(∀o∈O',o∈O∨WL.heap.size≤o)∧Keep (g2::O) WL wr)) (fun _ wr=>(x.hi+1-intOf ((wr.cell? ⟨g2,i,none⟩).getD undef)).toNat)
  case atStart=>
   exact⟨0,upd t i x.lo,O,Nat.zero_le _,(⟨fun j hj=>upd_other _ _ (by omega),by rw[upd_self];simp,fun j hj=>by rw[upd_other _ _ (by omega)];exact HZ.out j hj,HL2.out,by simpa [span]using HJL.out,fun _ h=>.inl h,Keep.refl _ _⟩:_∧_∧_∧_∧_∧_∧_)⟩
  case round=>
   obtain⟨k,t',O',hk,hS⟩:=hrel
   obtain⟨e1,e2,e3,e4,e5,e6,e7⟩:=hS.out
   have HIr:Hid (HItr W0 wr b (.slice (some ⟨blk,off,none⟩) b.parts.length c2) v3 v4 (.func (.yield l) #[] #[]) g1 g2 g3 g4 O'):=HIL.out.on HL2.out.lt e7 e6
   have HBr:Hid (Box wr g2 111 (tick t')):=e4
   have HE1:Hid (∀j,j<i→t' j=t j):=e1
   have HE2:Hid (t' i=x.lo+k):=e2
   have HE3:Hid (∀j,b.parts.length≤j→t' j=0):=e3
   have HJr:Hid (J (ms++(span x.lo k).flatMap fun q=>hist ag b.parts n (i+1) (upd t i q)) O' wr):=e5
   have HO':Hid (∀o∈O',o∈O∨WL.heap.size≤o):=e6
   have HKr:Hid (Keep (g2::O) WL wr):=e7
   have q2:∀X:After wr,X.1.cell? ⟨g1,2,none⟩=some (.slice (some ⟨blk,off,none⟩) b.parts.length c2):=fun X=>X.cell (HIr.out.b1.cell 2 rfl)
   have q4:∀X:After wr,X.1.cell? ⟨blk,off+i*6+4,none⟩=some (.int .i64 x.hi):=fun X=>X.cell (by
    have:=(X4.out.later (Kp.of HIr.out.old)).2
    simpa only[←Nat.add_assoc]using this)
   have qt:∀X:After wr,X.1.cell? ⟨g2,i,none⟩=some (.int .i64 (x.lo+k)):=fun X=>X.cell (by
    have:=HBr.out.cell i (tick_get hi5 t');rwa [HE2.out]at this)
   have hi5i:(i:Int)<5:=by omega
   clear e1 e2 e3 e4 e5 e6 e7 hS
   by_cases hlt:k<(x.hi+1-x.lo).toNat
   ·have hle:x.lo+(k:Int)≤x.hi:=by omega
    go_wp2
    refine wp_region_after (by kernel_rfl) (by kernel_rfl) ?_
    repeat(go_big_quiet_step (fail))
    refine wpQuiet_nil ?_
    rintro _ ⟨X,rfl⟩
    have HIx:Hid (HItr W0 X.1 b (.slice (some ⟨blk,off,none⟩) b.parts.length c2) v3 v4 (.func (.yield l) #[] #[]) g1 g2 g3 g4 O'):=HIr.out.on HBr.out.lt (.of X.2) (fun _ h=>.inl h)
    have HBx:Hid (Box X.1 g2 111 (tick t')):=(Keep.of (O:=[]) X.2).box HBr.out (by simp)
    have HJx:Hid (J (ms++(span x.lo k).flatMap fun q=>hist ag b.parts n (i+1) (upd t i q)) O' X.1):=hR.stay HJr.out X.2.size (fun k hk=>X.2.block k (hR.own HJr.out k hk).2.1)
    have HKx:Hid (Keep (g2::O) WL X.1):=HKr.out.trans' (.of X.2)
    have c5:X.1.cell? ⟨g4,0,none⟩=some (.func (.func 113) #[] #[ptr g1,ptr g2,ptr g3,ptr g4]):=HIx.out.b4.cell 0 rfl
    have HEq:Hid (hist ag b.parts n (i+1) t'=hist ag b.parts n (i+1) (upd t i (x.lo+k))):=hist_same n (i+1) _ _ (by omega) (fun j hj=>by
     by_cases e:j=i
     ·subst e;rw[upd_self];exact HE2.out
     ·rw[upd_other _ _ e];exact HE1.out j (by omega)) (fun j hj=>by rw[upd_other _ _ (by omega)];exact HZ.out j hj) HE3.out
    have hml:=HLen.out
    have hN:=IH (i+1) (by omega) t' (ms++(span x.lo k).flatMap fun q=>hist ag b.parts n (i+1) (upd t i q)) O' X.1 HE3.out HIx.out HBx.out HJx.out (by
     have h1:=span_flat x.lo (fun q=>hist ag b.parts n (i+1) (upd t i q)) hlt
     rw[HEq.out,List.length_append]
     omega)
    rw[show((i+1:Nat):Int)=(i:Int)+1 by omega]at hN
    have hN':Calls Tz.prog 113 #[.int .i64 ((i:Int)+1),ptr g1,ptr g2,ptr g3,ptr g4] X.1 (fun e w2=>(e=.returned (.bool true)∧w2.cell? ⟨g2,i,none⟩=some (.int .i64 (x.lo+k))∧w2.frozen? ⟨g2,i,none⟩=false∧
     Hid (HNextEnd J Jx g2 b.parts.length (i+1) (hist ag b.parts n (i+1) t') t' (ms++(span x.lo k).flatMap fun q=>hist ag b.parts n (i+1) (upd t i q)) O' X.1 (.returned (.bool true)) w2))∨
     (e=.returned (.bool false)∧Hid (hist ag b.parts n (i+1) t'≠ []∧Jx w2∧Keep (g2::O') X.1 w2))):=hN.mono fun e w2 h=>by
     rcases h with⟨rfl,t2,h1,h2,h3,h4⟩|⟨rfl,h⟩
     ·have hc:=h3.cell i (tick_get hi5 t2)
      rw[h1 i (by omega),HE2.out]at hc
      exact .inl ⟨rfl,hc,h3.warm i,.inl ⟨rfl,t2,h1,h2,h3,h4⟩⟩
     ·exact .inr ⟨rfl,h⟩
    clear hN IH q2 q4 qt hml
    go_wp2_with(go_at_call 113;refine hN'.mono ?_;rintro e w2 (⟨rfl,k1,k2,hE5⟩|⟨rfl,hE5⟩))
    ·have HR2:Hid (∃(t3:Nat→Int) (O3:List Nat),(∀j,j<i→t3 j=t j)∧t3 i=x.lo+((k+1:Nat):Int)∧(∀j,b.parts.length≤j→t3 j=0)∧Box (w2.setCell ⟨g2,i,none⟩ (.int .i64 (x.lo+k+1))) g2 111 (tick t3)∧
      J (ms++(span x.lo (k+1)).flatMap fun q=>hist ag b.parts n (i+1) (upd t i q)) O3 (w2.setCell ⟨g2,i,none⟩ (.int .i64 (x.lo+k+1)))∧(∀o∈O3,o∈O∨WL.heap.size≤o)∧Keep (g2::O) WL (w2.setCell ⟨g2,i,none⟩ (.int .i64 (x.lo+k+1)))):=by
      rcases hE5.out with⟨_,t2,h1,h2,h3,O2,hO2,hJ5,hK5⟩|⟨h,_⟩
      ·have hs:=HBx.out.lt
       have hn2:g2∉O2:=fun h=>(hO2 _ h).elim HIx.out.n2 (fun h=>by omega)
       have hsx:=HKx.out.size
       refine⟨upd t2 i (x.lo+k+1),O2,fun j hj=>by rw[upd_other _ _ (by omega),h1 j (by omega)];exact HE1.out j hj,by rw[upd_self];omega,fun j hj=>by rw[upd_other _ _ (by omega)];exact h2 j hj,?_,?_,?_,?_⟩
       ·have:=h3.set i (.int .i64 (x.lo+k+1));rwa [tick_set hi5]at this
       ·rw[span_succ,List.flatMap_append,←List.append_assoc]
        simp only[List.flatMap_cons,List.flatMap_nil,List.append_nil]
        rw[←HEq.out]
        exact hR.stay hJ5 (by simp[World.setCell]) (fun o ho=>Below.heap_setCell _ _ _ _ (fun(e:o=g2)=>hn2 (by rw[←e];exact ho)))
       ·exact fun o ho=>(hO2 o ho).elim (HO'.out o) (fun h=>.inr (Nat.le_trans hsx h))
       ·refine(HKx.out.trans hK5 fun o ho=>?_).trans' (Keep.set w2 (by simp) _)
        rcases List.mem_cons.1 ho with rfl|ho
        ·exact .inl (by simp)
        ·exact(HO'.out o ho).imp (List.mem_cons_of_mem _) id
      ·cases h
     obtain⟨t3,O3,r1,r2,r3,r4,r5,r6,r7⟩:=HR2.out
     have c6:=r4.cell i (tick_get hi5 t3)
     rw[r2]at c6
     have c7:=HBr.out.cell i (tick_get hi5 t')
     rw[HE2.out]at c7
     have HR3:Hid ((∀j,j<i→t3 j=t j)∧t3 i=x.lo+((k+1:Nat):Int)∧(∀j,b.parts.length≤j→t3 j=0)∧Box (w2.setCell ⟨g2,i,none⟩ (.int .i64 (x.lo+k+1))) g2 111 (tick t3)∧
      J (ms++(span x.lo (k+1)).flatMap fun q=>hist ag b.parts n (i+1) (upd t i q)) O3 (w2.setCell ⟨g2,i,none⟩ (.int .i64 (x.lo+k+1)))∧(∀o∈O3,o∈O∨WL.heap.size≤o)∧Keep (g2::O) WL (w2.setCell ⟨g2,i,none⟩ (.int .i64 (x.lo+k+1)))):=⟨r1,r2,r3,r4,r5,r6,r7⟩
     clear r1 r2 r3 r4 r5 r6 r7 HR2
     go_round
     case rel=>exact⟨k+1,t3,O3,by omega,HR3⟩
     case measure=>
      rw[c6,c7]
      simp[intOf]
      omega
    ·go_ret
     refine .inr ⟨rfl,span_ne x.lo (fun q=>hist ag b.parts n (i+1) (upd t i q)) hlt (by rw[←HEq.out];exact hE5.out.1),hE5.out.2.1,?_⟩
     refine((HKL.out.mono (O':=g2::O) (by simp)).trans' (HKx.out.trans hE5.out.2.2 fun o ho=>?_))
     rcases List.mem_cons.1 ho with rfl|ho
     ·exact .inl (by simp)
     ·exact(HO'.out o ho).imp (List.mem_cons_of_mem _) id
   ·have e:k=(x.hi+1-x.lo).toNat:=by omega
    subst e
    have hgt:¬x.lo+(((x.hi+1-x.lo).toNat:Nat):Int)≤x.hi:=by omega
    go_wp2
    refine wp_region_after (by kernel_rfl) (by kernel_rfl) ?_
    repeat(go_big_quiet_step (fail))
    refine wpQuiet_nil ?_
    rintro _ ⟨X,rfl⟩
    have HBx:Hid (Box X.1 g2 111 (tick t')):=(Keep.of (O:=[]) X.2).box HBr.out (by simp)
    have HJx:Hid (J (ms++(span x.lo (x.hi+1-x.lo).toNat).flatMap fun q=>hist ag b.parts n (i+1) (upd t i q)) O' X.1):=hR.stay HJr.out X.2.size (fun k hk=>X.2.block k (hR.own HJr.out k hk).2.1)
    have HKx:Hid (Keep (g2::O) W X.1):=(HKL.out.mono (O':=g2::O) (by simp)).trans' (HKr.out.trans' (.of X.2))
    clear q2 q4 qt
    go_wp2
    go_ret
    exact .inl ⟨rfl,t',HE1.out,HE3.out,HBx.out,O',(fun o ho=>(HO'.out o ho).imp id (fun h=>Nat.le_trans HKL.out.size h)),HJx.out,HKx.out⟩
end Go.Proofs.Cz
end
section
namespace Go.Proofs.Cz
open Go.RowKit
set_option maxHeartbeats 1000000 in
theorem hiter_any {W0 W:World} {b:Book} {v3 v4:Value} {a2:Option Addr} {c2 l K:Nat} {O:List Nat} {J:List (Nat→Int)→List Nat→World→Prop} {Jx:World→Prop} {ag:(Nat→Int)→Bool}
 (hb:BookAt W0 (.agg #[.int .i64 b.beat,.int .i64 b.places,.slice a2 b.parts.length c2,v3,v4]) b) (hv:Valid b)
 (hag:∀X t,Below W0.heap.size W0 X→Calls Tz.prog 114 #[.agg #[.int .i64 b.beat,.int .i64 b.places,.slice a2 b.parts.length c2,v3,v4],.agg (tick t)] X (RetV X (.bool (ag t))))
 (hR:RoundsH W0 l K J Jx) (hold:Below W0.heap.size W0 W) (hJ:J [] O W) (hlen:(hist ag b.parts b.parts.length 0 (fun _=>0)).length≤K):
 Calls Tz.prog 96 #[.agg #[.int .i64 b.beat,.int .i64 b.places,.slice a2 b.parts.length c2,v3,v4],.func (.yield l) #[] #[]] W (Ranged J Jx (hist ag b.parts b.parts.length 0 (fun _=>0)) O W):=by
 obtain⟨A0,hA0⟩:∃A,W.alloc (.cells #[.int .i64 b.beat,.int .i64 b.places,.slice a2 b.parts.length c2,v3,v4] 79)=A:=⟨_,rfl⟩
 obtain⟨A1,hA1⟩:∃A,A0.alloc (.cells #[.func (.yield l) #[] #[]] 153)=A:=⟨_,rfl⟩
 obtain⟨A2,hA2⟩:∃A,A1.alloc (.cells #[.int .i64 0,.int .i64 0,.int .i64 0,.int .i64 0,.int .i64 0] 111)=A:=⟨_,rfl⟩
 obtain⟨A3,hA3⟩:∃A,A2.alloc (.cells #[.nilFunc] 80)=A:=⟨_,rfl⟩
 have hs0:A0.heap.size=W.heap.size+1:=by rw[←hA0];simp
 have hs1:A1.heap.size=W.heap.size+1+1:=by rw[←hA1];simp[hs0]
 have hs2:A2.heap.size=W.heap.size+1+1+1:=by rw[←hA2];simp[hs1]
 have hs3:A3.heap.size=W.heap.size+1+1+1+1:=by rw[←hA3];simp[hs2]
 have b1:Box A3 W.heap.size 79 #[.int .i64 b.beat,.int .i64 b.places,.slice a2 b.parts.length c2,v3,v4]:=by
  rw[←hA3];refine(Keep.alloc [] _ _).box ?_ (by simp)
  rw[←hA2];refine(Keep.alloc [] _ _).box ?_ (by simp)
  rw[←hA1];refine(Keep.alloc [] _ _).box ?_ (by simp)
  rw[←hA0];exact Box.new _ _ _
 have b2:Box A3 (W.heap.size+1) 153 #[.func (.yield l) #[] #[]]:=by
  rw[←hA3];refine(Keep.alloc [] _ _).box ?_ (by simp)
  rw[←hA2];refine(Keep.alloc [] _ _).box ?_ (by simp)
  rw[←hA1,←hs0];exact Box.new _ _ _
 have b3:Box A3 (W.heap.size+1+1) 111 (tick fun _=>0):=by
  rw[←hA3];refine(Keep.alloc [] _ _).box ?_ (by simp)
  rw[←hA2,←hs1];exact Box.new _ _ _
 have b5:Box A3 (W.heap.size+1+1+1) 80 #[.nilFunc]:=by rw[←hA3,←hs2];exact Box.new _ _ _
 have hk3:Keep [] W A3:=by rw[←hA3,←hA2,←hA1,←hA0];exact(((Keep.alloc _ _ _).allocs _).allocs _).allocs _
 obtain⟨F,hF⟩:∃F:Value,.func (.func 113) #[] #[ptr W.heap.size,ptr (W.heap.size+1+1),ptr (W.heap.size+1),ptr (W.heap.size+1+1+1)]=F:=⟨_,rfl⟩
 obtain⟨A4,hA4⟩:∃A,A3.setCell ⟨W.heap.size+1+1+1,0,none⟩ F=A:=⟨_,rfl⟩
 have hk4:Keep [W.heap.size+1+1+1] A3 A4:=by rw[←hA4];exact Keep.set A3 (by simp) _
 have b5':Box A4 (W.heap.size+1+1+1) 80 #[F]:=by rw[←hA4];exact b5.set 0 F
 have hO:∀k∈O,W0.heap.size≤k∧k<W.heap.size∧k∉([]:List Nat):=fun k hk=>hR.own hJ k hk
 have hk:Keep [] W A4:=hk3.trans hk4 (by simp;omega)
 have hsz:=hold.size
 have hI:HItr W0 A4 b (.slice a2 b.parts.length c2) v3 v4 (.func (.yield l) #[] #[]) W.heap.size (W.heap.size+1+1) (W.heap.size+1) (W.heap.size+1+1+1) O:=by
  refine⟨hk4.box b1 (by simp;omega),hk4.box b2 (by simp),by rw[hF];exact b5',?_,?_,?_,?_,by omega,by omega,by omega,by omega,hold.trans (hk.below (by simp) hsz),fun k hx=>(hO k hx).1⟩
  all_goals(intro hx;have:=(hO _ hx).2.1;omega)
 have hJ4:J [] O A4:=hR.stay hJ hk.size (fun k hx=>hk.block k (hO k hx).2.1 (by simp))
 have hC:=hnext_any hb hv hag hR b.parts.length 0 (by omega) (fun _=>0) [] O A4 (fun _ _=>rfl) hI (hk4.box b3 (by simp)) hJ4 (by simpa using hlen)
 have c5:A3.cell? ⟨W.heap.size+1+1+1,0,none⟩=some .nilFunc:=b5.cell 0 rfl
 have f5:A3.frozen? ⟨W.heap.size+1+1+1,0,none⟩=false:=b5.warm 0
 have c6:A4.cell? ⟨W.heap.size+1+1+1,0,none⟩=some F:=b5'.cell 0 rfl
 have HK:Hid (Keep [] W A4):=hk
 rw[←hF]at c6
 clear hlen hI hJ4 hb hv hR hold hJ b1 b2 b3 b5 b5' hk3 hk4 hk hsz hO hag
 subst hF
 have hst:∀(a:Addr) (f:Fn) (x y:Array Value) (w:World),(store a (.func f x y) .plain).run Tz.prog w=stored Tz.prog w a (.func f x y) .plain:=fun a f x y w=>run_store Tz.prog w a _ _ rfl
 go_enter Tz.func96,Tz.ntmps96
 go_wp2_with(go_at_call 113;refine hC.mono ?_;rintro e w1 (⟨rfl,t2,h1,h2,hB,O2,hO2,hJ5,hK5⟩|⟨rfl,hL5,hx5,hK5⟩))
 ·go_end0
  refine⟨⟨_,rfl⟩,.inl ⟨O2,(fun k hk=>(hO2 k hk).imp id (fun h=>Nat.le_trans HK.out.size h)),by simpa using hJ5,(HK.out.mono (O':=O) (by simp)).trans hK5 fun x hx=>?_⟩⟩
  rcases List.mem_cons.1 hx with rfl|hx
  ·exact .inr (by omega)
  ·exact .inl hx
 ·go_end0
  refine⟨⟨_,rfl⟩,.inr ⟨hL5,hx5,(HK.out.mono (O':=O) (by simp)).trans hK5 fun x hx=>?_⟩⟩
  rcases List.mem_cons.1 hx with rfl|hx
  ·exact .inr (by omega)
  ·exact .inl hx
end Go.Proofs.Cz
end
