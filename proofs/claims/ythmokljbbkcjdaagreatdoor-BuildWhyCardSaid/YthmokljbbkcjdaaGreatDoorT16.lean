/- A part of the proof that BuildWhy returns true. Conditions: none. -/
import Derived.Test.YthmokljbbkcjdaaGreatDoorT15
import Derived.StillTailTactics
set_option linter.unusedVariables false
set_option linter.unusedSimpArgs false
section
namespace Go.Proofs.Cz
open Go.RowKit
attribute [local go_sem] Oper.semAt_some
theorem ownsRow_on {W W':World} {B:Nat} {e:TypeId} {s:Nat} {v:Value} {n:Nat} {xs:List Value} (h:W.ownsRow B e s v n xs) (hk:∀k,v.ownBlock=some k→W'.heap[k]?=W.heap[k]?):W'.ownsRow B e s v n xs:=by
 obtain⟨h1,h2⟩:=h
 refine⟨h1,?_⟩
 rcases h2 with h2|⟨g,cap,cur,rfl,hg,hh,r⟩
 ·exact .inl h2
 ·exact .inr ⟨g,cap,cur,rfl,hg,(hk g rfl).trans hh,r⟩
theorem ownsRow_lt {W:World} {B:Nat} {e:TypeId} {s:Nat} {v:Value} {n:Nat} {xs:List Value} (h:W.ownsRow B e s v n xs):∀k,v.ownBlock=some k→B≤k∧k<W.heap.size:=fun k hk=>by
 obtain⟨_,⟨rfl,_⟩|⟨g,cap,cur,rfl,hg,hh,_⟩⟩:=h
 ·cases hk
 ·cases hk;exact⟨hg,(Array.getElem?_eq_some_iff.1 hh).1⟩
theorem Keep.grown {O:List Nat} {W W':World} {row:Option Nat} (h:W.grownBy W' row) (hr:∀k,row=some k→k∈O):Keep O W W':=
 ⟨h.os,h.tape,h.output,h.size,fun k hk hn=>h.block k hk (fun e=>hn (hr k e.symm))⟩
theorem append_where {P:Program} {w:World} {base:Nat} {t ty e:TypeId} {i:TypeInfo} {z:Value} {size bytes:Nat} (ht:P.underlying t=some (.slice e)) (hi:P.info? e=some i) (hz:i.zero=some z)
 (hsize:i.size=size) (hby:i.bytes=bytes) {v:Value} {n:Nat} {xs:List Value} (hown:w.ownsRow base e size v n xs)
 {a:Addr} {m c:Nat} {news:List Value} (hl:news.length=m*size) (hnews:∀j u,news[j]?=some u→w.cell? (a.add j)=some u) (h1:∀u∈news,u.oneCell'=true)
 (hm:0<m) (h63:n+m≤maxLen) (hbytes:(n+m)*bytes≤140737488355328) {v':Value} {w':World} (hrun:(Builtin.append_ #[t,t] ty #[v,.slice (some a) m c]).run P w=.ok v' w'):
 ∀k,v'.ownBlock=some k→v.ownBlock=some k∨w.heap.size≤k:=by
 subst hsize
 subst hby
 have hsmall:n+m≤9223372036854775807:=by simp only[maxLen]at h63;omega
 rcases hown.2 with⟨rfl,rfl⟩|⟨g,cap,cur,rfl,hbg,hg,hnc,hcm,hcs,htake⟩
 ·have hr:=run_append_nil (P:=P) w t ty e i z ht hi hz a m c news hl hnews hm (by omega) (by have hb:=hbytes;simp only[Nat.zero_add]at hb;omega)
  rw[hr]at hrun
  cases hrun
  intro k hk
  cases hk
  exact .inr (Nat.le_refl _)
 ·by_cases hroom:n+m≤cap
  ·have hfit:n*i.size+news.length≤cur.size:=by rw[hl,hcs,←Nat.add_mul];exact Nat.mul_le_mul_right _ hroom
   have hr:=run_append_room (P:=P) w t ty e i ht hi g n cap cur hg a m c news hl hnews h1 hroom hfit
   rw[hr]at hrun
   cases hrun
   intro k hk
   cases hk
   exact .inl rfl
  ·have holds:∀j u,xs[j]?=some u→w.cell? ((⟨g,0,none⟩:Addr).add j)=some u:=hown.cells (g:=g) rfl
   have hr:=run_append_grow (P:=P) w t ty e i z ht hi hz ⟨g,0,none⟩ n cap xs hown.1 holds a m c news hl hnews (by omega) (by omega) (growslice_fits (by omega) hbytes)
   rw[hr]at hrun
   cases hrun
   intro k hk
   cases hk
   exact .inr (Nat.le_refl _)
theorem wpListIn_append_at {F:Fence} {n:Nat} {P:Program} (w:World) {ops:Array Oper} {rest:List Oper} {o:Oper} {a:Act} {Q:Exit→Act→World→Prop}
 (hg:o.guard=none) (s x:Operand) (t:TypeId) (hop:o.op=Op.call {callee:=Callee.builtin Builtin.append,args:=#[s,x],argTypes:=#[t,t]})
 (base:Nat) (e:TypeId) (i:TypeInfo) (z:Value) (size bytes:Nat) (h1:P.underlying t=some (.slice e)) (h2:P.info? e=some i) (h3:i.zero=some z) (h4:i.size=size) (h5:i.bytes=bytes) (h6:z.cells.size=size) (h7:0<size)
 (v:Value) (k:Nat) (xs:List Value) (hs:a.eval s=v) (hown:w.ownsRow base e size v k xs) (ad:Addr) (m c:Nat) (news:List Value) (hx:a.eval x=.slice (some ad) m c) (hn:news.length=m*size)
 (hc:∀j u,news[j]?=some u→w.cell? (ad.add j)=some u) (h1c:∀u∈news,u.oneCell'=true) (hm:0<m) (b1:k+m≤maxLen) (b2:(k+m)*bytes≤140737488355328) (b3:base≤w.heap.size)
 (hK:∀v' w',w'.ownsRow base e size v' (k+m) (xs++news)→w.grownBy w' v.ownBlock→(∀j,v'.ownBlock=some j→v.ownBlock=some j∨w.heap.size≤j)→wpListIn F n P ops Q rest (a.put o.dst v') w'):
 wpListIn F n P ops Q (o::rest) a w:=by
 refine wpListIn_plain hg fun K hK'=>?_
 obtain⟨v',w',hrun,r1,r2,r3⟩:=run_append_own (P:=P) w base t o.type e i z size bytes h1 h2 h3 h4 h5 h6 h7 v k xs hown ad m c news hn hc h1c b1 b2 b3
 have r4:=append_where h1 h2 h3 h4 h5 hown hn hc h1c hm b1 b2 hrun
 unfold Oper.wpIn
 refine⟨?_,?_⟩
 ·simp[Oper.about,hop,resolve,Target.leads,Sem.run_pure]
 ·rw[Oper.semAt_plain F _ _ (by rw[hop];intro c hc';cases hc')]
  simp[execOp,hop,resolve,invoke,builtin,hs,hx,hrun,Result.andThen]
  exact hK' _ _ (hK v' w' r1 r2 r4)
theorem info91:(Tz.prog.info? 91).map (fun i=>(i.zero,i.size,i.bytes))=some (some (.agg #[.int .i64 0,.int .i64 0,.int .i64 0,.int .i64 0]),4,32):=by kernel_rfl
theorem under82:Tz.prog.underlying 82=some (.slice 91):=by rw[Tz.under];exact Tryz.underlying82
theorem enters110:∀args w,(callFunc 110 args).run Tz.prog w=.ok (.enter 110 args) w:=enters_of Tz.func110 (by kernel_rfl) rfl
theorem mac_new {w:World} {m:Nat→Int} {P:Nat} (h:Box w P 91 (mac m)):∀j u,(mac m).toList[j]?=some u→w.cell? ((⟨P,0,none⟩:Addr).add j)=some u:=fun j u hu=>by
 have hadd:(⟨P,0,none⟩:Addr).add j=⟨P,j,none⟩:=by unfold Addr.add;split<;>simp_all
 rw[hadd]
 exact h.cell j (by simpa using hu)
theorem mac_one (m:Nat→Int):∀u∈(mac m).toList,u.oneCell'=true:=fun u h=>by
 simp[mac]at h
 rcases h with rfl|rfl|rfl|rfl<;>rfl
theorem flat_len {α:Type} {f:Int→List α} {c:Nat} (h:∀x,(f x).length≤c):∀l:List Int,(l.flatMap f).length≤l.length*c
 | []=>by simp
 |x::l=>by
  rw[List.flatMap_cons,List.length_append,List.length_cons,Nat.add_mul,Nat.one_mul]
  have:=flat_len h l
  have:=h x
  omega
theorem fill_len {b:Book} (hb:b.parts.length≤5) (bit:Nat→Bool):∀(n p:Nat) (m:Nat→Int),(fill b bit n p m).length≤5^n
 |0,_,_=>by simp[fill]
 |n+1,p,m=>by
  by_cases h:bit p=true
  ·rw[fill_yes h]
   have h1:=flat_len (f:=fillAt b bit n p m) (c:=5^n) (fun x=>by
    unfold fillAt
    split
    ·simp
    ·exact fill_len hb bit n (p+1) _) (canL b p)
   have h2:(canL b p).length≤b.parts.length:=canTo_len _ _ _
   have h3:(canL b p).length*5^n≤5*5^n:=Nat.mul_le_mul_right _ (by omega)
   rw[Nat.pow_succ]
   omega
  ·rw[fill_no h]
   have:=fill_len hb bit n (p+1) m
   rw[Nat.pow_succ]
   omega
noncomputable def machinesOf (b:Book):List (Nat→Int):=fill b (2^b.places.toNat-1).testBit b.places.toNat 0 (fun _=>0)
theorem wp_region_tail {P:Program} {id:Nat} {Q:Exit→Act→World→Prop} {a:Act} {w w1:World} {l:List Oper} (n:Nat) (hm:P.follows .mixedOrders=true) (hB:Region.lexTailB .any l.toArray n=true)
 (hw:w.drewN 1=w1) (h:wpStill P l.toArray w1 (fun a'=>wpList P l.toArray Q (l.drop n) a' w1) (l.take n) a):(Code.region id l.toArray true).wp P Q a w:=by
 subst hw
 exact wp_region_still_tail n hm hB h
theorem machines_len {b:Book} (hv:Valid b):(machinesOf b).length≤625:=by
 have h1:=fill_len hv.parts.many.2 (2^b.places.toNat-1).testBit b.places.toNat 0 (fun _=>0)
 have h2:=hv.places
 have h3:5^b.places.toNat≤5^4:=Nat.pow_le_pow_right (by omega) (by omega)
 unfold machinesOf
 omega
def Outs (o B:Nat) (ms:List (Nat→Int)) (O:List Nat) (W:World):Prop:=
 ∃v,Box W o 82 #[v]∧W.ownsRow B 91 4 v ms.length (ms.flatMap fun m=>(mac m).toList)∧O=o::v.ownBlock.toList
def RetM (w:World) (b:Book) (e:Ending) (w':World):Prop:=
 (∃v,e=.returned v∧w'.ownsRow w.heap.size 91 4 v (machinesOf b).length ((machinesOf b).flatMap fun m=>(mac m).toList))∧Below w.heap.size w w'
set_option maxHeartbeats 4000000 in
set_option maxRecDepth 20000 in
theorem machines_any (w:World) (v:Value) (b:Book) (hb:BookAt w v b) (hv:Valid b):Calls Tz.prog 50 #[v] w (RetM w b):=by
 have HB:Hid (BookAt w v b):=hb
 have HV:Hid (Valid b):=hv
 obtain⟨v2,v3,v4,rfl,_,_,_⟩:=hb
 have hpl:=hv.places
 obtain⟨A1,hA1⟩:∃A,w.alloc (.cells #[.int .i64 b.beat,.int .i64 b.places,v2,v3,v4] 79)=A:=⟨_,rfl⟩
 obtain⟨A2,hA2⟩:∃A,A1.alloc (.cells #[.slice none 0 0] 82)=A:=⟨_,rfl⟩
 obtain⟨A3,hA3⟩:∃A,A2.drewN 1=A:=⟨_,rfl⟩
 have hs1:A1.heap.size=w.heap.size+1:=by rw[←hA1];simp
 have hs3:A3.heap.size=w.heap.size+2:=by rw[←hA3,←hA2];show(A1.alloc _).heap.size=_;simp[hs1]
 have b1:Box A3 w.heap.size 79 #[.int .i64 b.beat,.int .i64 b.places,v2,v3,v4]:=by
  rw[←hA3];show Box A2 _ _ _
  rw[←hA2];refine(Keep.alloc [] _ _).box ?_ (by simp)
  rw[←hA1];exact Box.new _ _ _
 have b2:Box A3 (w.heap.size+1) 82 #[.slice none 0 0]:=by
  rw[←hA3];show Box A2 _ _ _
  rw[←hA2,←hs1];exact Box.new _ _ _
 have z0:A3.cell? ⟨w.heap.size,0,none⟩=some (.int .i64 b.beat):=b1.cell 0 rfl
 have z1:A3.cell? ⟨w.heap.size,1,none⟩=some (.int .i64 b.places):=b1.cell 1 rfl
 have z2:A3.cell? ⟨w.heap.size,2,none⟩=some v2:=b1.cell 2 rfl
 have z3:A3.cell? ⟨w.heap.size,3,none⟩=some v3:=b1.cell 3 rfl
 have z4:A3.cell? ⟨w.heap.size,4,none⟩=some v4:=b1.cell 4 rfl
 clear hv
 refine(callsIn_wide (n:=0)).1 (callsIn_of_wp_marks Tz.func50 rfl trivial (wpIn_wide.2 ?_))
 simp only[Tz.ntmps50,List.size_toArray,List.length_cons,List.length_nil,Nat.reduceAdd,Nat.reduceSub,Array.replicate_succ,
  Array.replicate_zero,List.push_toArray,List.append_toArray,List.nil_append,List.cons_append]
 go_wp2
 refine wp_region_tail 6 (by kernel_rfl) (by kernel_rfl) hA3 ?_
 simp only[List.take_succ_cons,List.take_zero,List.drop_succ_cons,List.drop_zero]
 repeat still_step
 refine wpStill_nil ?_
 obtain⟨mask,hmask⟩:∃mask:Nat,mask=2^b.places.toNat-1:=⟨_,rfl⟩
 have hM:IntKind.i64.wrap (IntKind.i64.wrap (2^b.places.toNat)-1)=(mask:Int):=by
  rcases(by omega:b.places=1∨b.places=2∨b.places=3∨b.places=4)with h|h|h|h<;>(rw[hmask,h];rfl)
 obtain⟨sh,hsh⟩:∃sh,IntKind.i64.wrap (2^b.places.toNat)=sh:=⟨_,rfl⟩
 rw[hsh]at hM⊢
 rw[hM]
 clear hsh hM
 have HMk:Hid (mask=2^b.places.toNat-1):=hmask
 clear hmask
 go_wp2_with(go_at_call 91;refine(filled_any A3 b v2 v3 v4 mask).mono ?_;rintro e w1 ⟨rfl,hw1⟩;have HW1:Hid (w1=_):=hw1;clear hw1)
 have hw1:=HW1.out
 have hs4:w1.heap.size=w.heap.size+4:=by rw[hw1];simp[hs3]
 have bk1:Box w1 A3.heap.size 79 #[.int .i64 b.beat,.int .i64 b.places,v2,v3,v4]:=by
  rw[hw1];refine(Keep.alloc [] _ _).box ?_ (by simp);exact Box.new _ _ _
 have bk4:Box w1 (A3.heap.size+1) 3 #[.int .i64 mask]:=by
  rw[hw1];have:=Box.new (A3.alloc (.cells #[.int .i64 b.beat,.int .i64 b.places,v2,v3,v4] 79)) 3 #[.int .i64 mask];rwa [World.size_alloc]at this
 have hk1:Keep [] A3 w1:=by rw[hw1];exact(Keep.alloc _ _ _).allocs _
 have hkw:Keep [] w w1:=by
  refine Keep.trans (W1:=A3) ?_ hk1 (by simp)
  rw[←hA3]
  show Keep [] w (A2.drewN 1)
  refine Keep.of ?_
  rw[←hA2,←hA1]
  exact Below.drewN (((Below.refl _ _).alloc (Nat.le_refl _) _).alloc (by simp) _) 1
 rw[hs3]at bk1 bk4
 have hL:machinesOf b=fill b mask.testBit b.places.toNat 0 (fun _=>0):=by rw[HMk.out];rfl
 have hmask:mask<16:=by
  rw[HMk.out]
  rcases(by omega:b.places=1∨b.places=2∨b.places=3∨b.places=4)with h|h|h|h<;>(rw[h];decide)
 obtain⟨i0,hi,hz0,hz1,hz2⟩:=info_parts info91
 refine wp_range (gf:=110) (lb:=#[ptr (w.heap.size+2),ptr (w.heap.size+2+1)]) rfl enters110 (enc:=fun m=>.agg (mac m)) rfl (machinesOf b) w.heap.size [w.heap.size+2,w.heap.size+2+1] (by omega) (by intro k hk;simp at hk;omega)
  ?seq (Outs (w.heap.size+1) w1.heap.size) (fun _=>False) [w.heap.size+1] ?stay ?own (fun h _=>h) ?start
  (fun m N a₁ W=>∃P,N≤P∧Box W P 91 (mac m)∧a₁={tmps:=#[.agg #[.int .i64 b.beat,.int .i64 b.places,v2,v3,v4],.pointer (some ⟨w.heap.size,0,none⟩),.slice none 0 0,.pointer (some ⟨w.heap.size+1,0,none⟩),.pointer (some ⟨P,0,none⟩),
    .agg #[.int .i64 b.beat,.int .i64 b.places,v2,v3,v4],.pointer (some ⟨w.heap.size,0,none⟩),.pointer (some ⟨w.heap.size,1,none⟩),.int .i64 b.places,.int .i64 sh,.int .i64 mask,
    .func (.func 110) #[] #[ptr (w.heap.size+2),ptr (w.heap.size+2+1)],.agg (mac m),undef,undef,undef,undef,undef],defers:=[]})
  ?assign ?ax ?body ?done (fun _ _ _ h=>h.elim)
 case seq=>
  intro l W O J Jx hR hk hJ
  rw[hL]
  exact iter_any HB.out HV.out hmask (by omega) (by rw[←hL];exact hR) (hk.box bk1 (by simp)) (hk.box bk4 (by simp)) ((hkw.trans hk (by simp)).below (by simp) (Nat.le_refl _)) hJ (Nat.le_refl _)
 case stay=>
  rintro ms O W W' ⟨v,h1,h2,rfl⟩ hs hk
  exact⟨v,(hk _ (by simp)).trans h1,ownsRow_on h2 (fun k hk'=>hk k (by simp[hk'])),rfl⟩
 case own=>
  rintro ms O W ⟨v,h1,h2,rfl⟩ k hk
  have:=h1.lt
  simp only[List.mem_cons,Option.mem_toList]at hk
  rcases hk with rfl|hk
  ·exact⟨by omega,this,by simp⟩
  ·have:=ownsRow_lt h2 k hk
   refine⟨by omega,this.2,?_⟩
   simp only[List.mem_cons,List.not_mem_nil,or_false,not_or]
   omega
 case start=>
  exact⟨.slice none 0 0,hk1.box b2 (by simp),World.ownsRow_nil _ _ _ _,rfl⟩
 case assign=>
  intro l ms x O W K hI hK
  have b4:=Box.new W 91 (mac fun _=>0)
  have c0:(W.alloc (.cells #[.int .i64 0,.int .i64 0,.int .i64 0,.int .i64 0] 91)).cell? ⟨W.heap.size,0,none⟩=some (.int .i64 0):=b4.cell 0 rfl
  have f0:=fun i=>b4.warm i
  clear HB HV HMk HW1 hw1 hk1 hkw hL bk1 bk4
  simp only[mac]
  gi_wp2
  exact hK _ _ (Keep.alloc [] W _) ⟨W.heap.size,Nat.le_refl _,Box.new W 91 (mac x),rfl⟩
 case ax=>
  rintro x N a₁ W W' ⟨P,h1,h2,rfl⟩ hs hk
  exact⟨P,h1,(hk P h1 h2.lt).trans h2,rfl⟩
 case body=>
  rintro l ms x O N a₁ W ⟨v,h1,h2,rfl⟩ hlen hO hN hwN ⟨P,hP,hx,rfl⟩
  have c0:W.cell? ⟨w.heap.size+1,0,none⟩=some v:=h1.cell 0 rfl
  have x0:W.cell? ⟨P,0,none⟩=some (.int .i64 (x 0)):=hx.cell 0 rfl
  have x1:W.cell? ⟨P,1,none⟩=some (.int .i64 (x 1)):=hx.cell 1 rfl
  have x2:W.cell? ⟨P,2,none⟩=some (.int .i64 (x 2)):=hx.cell 2 rfl
  have x3:W.cell? ⟨P,3,none⟩=some (.int .i64 (x 3)):=hx.cell 3 rfl
  have hml:=machines_len HV.out
  have hN2:=h1.lt
  have H1:Hid (Box W (w.heap.size+1) 82 #[v]):=h1
  have H2:Hid (W.ownsRow w1.heap.size 91 4 v ms.length (ms.flatMap fun m=>(mac m).toList)):=h2
  clear HB HV HMk HW1 hw1 hk1 hkw hL bk1 bk4 hx hO z0 z1 z2 z3 z4 b1 b2 h1 h2
  simp only[mac]
  gi_wp2_with(gi_at_builtin
              refine wpListIn_append_at _ rfl (.tmp 13) (.tmp 15) 82 rfl w1.heap.size 91 i0 (.agg #[.int .i64 0,.int .i64 0,.int .i64 0,.int .i64 0]) 4 32 under82 hi hz0 hz1 hz2 rfl (by decide) _ _ _ rfl (H2.out.alloc _) ⟨W.heap.size,0,none⟩ 1 1 (mac x).toList rfl rfl (mac_new (Box.new W 91 (mac x))) (mac_one x) (by omega) (by unfold maxLen;omega) (by omega) (by simp;omega) ?_
              intro v' w2 hown' hgrow hwhere
              obtain⟨g',cap',rfl⟩:=ownsRow_succ hown'
              have HO:Hid (w2.ownsRow w1.heap.size 91 4 (.slice (some ⟨g',0,none⟩) (ms.length+1) cap') (ms.length+1) (ms.flatMap (fun m=>(mac m).toList)++(mac x).toList)):=hown'
              have HG:Hid ((W.alloc (.cells (mac x) 91)).grownBy w2 v.ownBlock):=hgrow
              have HX:Hid (∀j,(Value.slice (some ⟨g',0,none⟩) (ms.length+1) cap').ownBlock=some j→v.ownBlock=some j∨(W.alloc (.cells (mac x) 91)).heap.size≤j):=hwhere
              have HB2:Hid (Box w2 (w.heap.size+1) 82 #[v]):=(HG.out.block _ (by simp;omega) (fun e=>by have:=ownsRow_lt H2.out _ e.symm;omega)).trans ((Keep.alloc [] W _).box H1.out (by simp))
              have c2:w2.cell? ⟨w.heap.size+1,0,none⟩=some v:=HB2.out.cell 0 rfl
              have f2:w2.frozen? ⟨w.heap.size+1,0,none⟩=false:=HB2.out.warm 0
              clear hown' hgrow hwhere)
  have hg':=(ownsRow_lt HO.out g' rfl).1
  refine⟨[w.heap.size+1,g'],?_,⟨_,HB2.out.set 0 _,?_,rfl⟩,?_⟩
  ·intro k hk
   simp only[List.mem_cons,List.not_mem_nil,or_false]at hk
   rcases hk with rfl|rfl
   ·exact .inl (by simp)
   ·rcases HX.out _ rfl with h|h
    ·exact .inl (by simp[h])
    ·exact .inr (by simp at h;omega)
  ·rw[List.length_append,List.flatMap_append]
   simp only[List.length_cons,List.length_nil,List.flatMap_cons,List.flatMap_nil,List.append_nil]
   refine ownsRow_on HO.out (fun k hk=>Below.heap_setCell _ _ _ _ ?_)
   cases hk
   show g'≠w.heap.size+1
   omega
  ·refine((Keep.alloc _ W _).trans (Keep.grown HG.out (O:=v.ownBlock.toList) (fun k h=>by simp[h])) ?_).trans (Keep.set w2 (O:=[w.heap.size+1]) (by simp) _) ?_
   ·intro k hk
    exact .inl (by simp at hk;simp[hk])
   ·intro k hk
    simp at hk
    exact .inl (by simp[hk])
 case done=>
  rintro D O' W hO' ⟨v,h1,h2,rfl⟩ hk hD hDw
  have c0:W.cell? ⟨w.heap.size+1,0,none⟩=some v:=h1.cell 0 rfl
  have HK:Hid (Below w.heap.size w W):=(hkw.trans hk (by intro k hk;simp at hk;right;omega)).below (by simp) (Nat.le_refl _)
  clear hkw hk HB HV HMk HW1 hw1 hk1 hL bk1 bk4
  go_wp2
  refine⟨by simp,.inl ⟨_,_,rfl,run_takeDeferred hD,?_⟩⟩
  have h3:=ownsRow_putObj h2 (.deferred none) hD rfl
  refine⟨_,results_tmp rfl _ _ _,⟨_,rfl,h3.1,?_⟩,HK.out.trans ((Keep.putObj (O:=[D]) W (by simp) _).below (by simp;omega) HK.out.size)⟩
  rcases h3.2 with h|⟨g,cap,cur,e,hg,r⟩
  ·exact .inl h
  ·exact .inr ⟨g,cap,cur,e,by omega,r⟩
end Go.Proofs.Cz
end
section
namespace Go.Proofs.Cz
open Go.RowKit
attribute [local go_sem] Oper.semAt_some
theorem ownsRow_slice {W:World} {B:Nat} {e:TypeId} {s:Nat} {v:Value} {n:Nat} {xs:List Value} (h:W.ownsRow B e s v n xs):∃a cap,v=.slice a n cap:=by
 obtain⟨_,⟨rfl,rfl⟩|⟨g,cap,cur,rfl,_⟩⟩:=h
 ·exact⟨_,_,rfl⟩
 ·exact⟨_,_,rfl⟩
def RetV (w:World) (v:Value) (e:Ending) (w':World):Prop:=e=.returned v∧Below w.heap.size w w'
set_option maxHeartbeats 4000000 in
theorem bMachines_any (w:World) (v:Value) (b:Book) (hb:BookAt w v b) (hv:Valid b) (hc:Chk w):Calls Tz.prog 14 #[v] w (RetV w (.tuple #[.int .i64 (machinesOf b).length,.int .i64 0])):=by
 have HB:Hid (BookAt w v b):=hb
 have HV:Hid (Valid b):=hv
 obtain⟨v2,v3,v4,rfl,⟨a2,c2,⟨rfl,_,_,_,_⟩,_⟩,⟨a3,c3,⟨rfl,_,_,_,_⟩,_⟩,⟨a4,c4,⟨rfl,_,_,_,_⟩,_⟩⟩:=hb
 have hC:=bCheck_any (w.alloc (.cells #[.int .i64 b.beat,.int .i64 b.places,.slice a2 b.parts.length c2,.slice a3 b.apart.length c3,.slice a4 b.trials.length c4] 26)) _ _ (HB.out.later (Kp.alloc w _)) hv (hc.later ((Below.refl _ _).alloc (Nat.le_refl _) _))
 clear hv hc
 go_enter Tz.func14,Tz.ntmps14
 go_wp2_with(first
  |(go_at_call 47
    refine hC.mono ?_
    rintro e w1 ⟨⟨r,rfl,rfl⟩,hb1⟩
    have HB1:Hid (Below (w.heap.size+1) _ w1):=hb1.ofAlloc
    obtain⟨s0,s1,s2,s3,s4⟩:=Box5.of79 HB1.out)
  |(go_at_call 50
    refine(machines_any _ _ b (HB.out.later (Kp.boxed HB1.out)) HV.out).mono ?_
    rintro e w2 ⟨⟨r,rfl,hr⟩,hb2⟩
    obtain⟨a,cap,rfl⟩:=ownsRow_slice hr))
 go_ret2
 exact⟨rfl,Below.boxed (HB1.out.trans (hb2.mono (by have:=HB1.out.size;simpa using this)))⟩
theorem results_cell {fn:Func} {p:Tmp} {ty:TypeId} (h:fn.results=#[.cell p ty]) (tmps:Array Value) (P:Program) (w:World):
 (results fn tmps).run P w=((asAddr (tmps.getD p undef)).run P w).andThen fun a w₁=>(loadVar ty a).run P w₁:=by
 simp only[results,h]
 simp[Sem.run_bind,Result.andThen]
noncomputable def fillOf (b:Book) (mask:Nat):List (Nat→Int):=fill b mask.testBit b.places.toNat 0 (fun _=>0)
open Classical in
noncomputable def emptyOf (b:Book) (mask:Nat):Bool:=decide (fillOf b mask=[])
set_option maxHeartbeats 4000000 in
theorem empty_any (w:World) (v:Value) (b:Book) (mask:Nat) (hm:mask<16) (hb:BookAt w v b) (hv:Valid b):Calls Tz.prog 48 #[v,.int .i64 mask] w (RetV w (.bool (emptyOf b mask))):=by
 have HB:Hid (BookAt w v b):=hb
 have HV:Hid (Valid b):=hv
 obtain⟨v2,v3,v4,rfl,_,_,_⟩:=hb
 have hpl:=hv.places
 obtain⟨A1,hA1⟩:∃A,w.alloc (.cells #[.int .i64 b.beat,.int .i64 b.places,v2,v3,v4] 79)=A:=⟨_,rfl⟩
 obtain⟨A3,hA3⟩:∃A,A1.alloc (.cells #[.bool false] 4)=A:=⟨_,rfl⟩
 have hs1:A1.heap.size=w.heap.size+1:=by rw[←hA1];simp
 have hs3:A3.heap.size=w.heap.size+2:=by rw[←hA3];simp[hs1]
 have b1:Box A3 w.heap.size 79 #[.int .i64 b.beat,.int .i64 b.places,v2,v3,v4]:=by
  rw[←hA3];refine(Keep.alloc [] _ _).box ?_ (by simp)
  rw[←hA1];exact Box.new _ _ _
 have b2:Box A3 (w.heap.size+1) 4 #[.bool false]:=by
  rw[←hA3,←hs1];exact Box.new _ _ _
 have z0:A3.cell? ⟨w.heap.size,0,none⟩=some (.int .i64 b.beat):=b1.cell 0 rfl
 have z1:A3.cell? ⟨w.heap.size,1,none⟩=some (.int .i64 b.places):=b1.cell 1 rfl
 have z2:A3.cell? ⟨w.heap.size,2,none⟩=some v2:=b1.cell 2 rfl
 have z3:A3.cell? ⟨w.heap.size,3,none⟩=some v3:=b1.cell 3 rfl
 have z4:A3.cell? ⟨w.heap.size,4,none⟩=some v4:=b1.cell 4 rfl
 clear hv
 refine(callsIn_wide (n:=0)).1 (callsIn_of_wp_marks Tz.func48 rfl trivial (wpIn_wide.2 ?_))
 simp only[Tz.ntmps48,List.size_toArray,List.length_cons,List.length_nil,Nat.reduceAdd,Nat.reduceSub,Array.replicate_succ,
  Array.replicate_zero,List.push_toArray,List.append_toArray,List.nil_append,List.cons_append]
 go_wp2_with(go_at_call 91;refine(filled_any A3 b v2 v3 v4 mask).mono ?_;rintro e w1 ⟨rfl,hw1⟩;have HW1:Hid (w1=_):=hw1;clear hw1)
 have hw1:=HW1.out
 have hs4:w1.heap.size=w.heap.size+4:=by rw[hw1];simp[hs3]
 have bk1:Box w1 A3.heap.size 79 #[.int .i64 b.beat,.int .i64 b.places,v2,v3,v4]:=by
  rw[hw1];refine(Keep.alloc [] _ _).box ?_ (by simp);exact Box.new _ _ _
 have bk4:Box w1 (A3.heap.size+1) 3 #[.int .i64 mask]:=by
  rw[hw1];have:=Box.new (A3.alloc (.cells #[.int .i64 b.beat,.int .i64 b.places,v2,v3,v4] 79)) 3 #[.int .i64 mask];rwa [World.size_alloc]at this
 have hk1:Keep [] A3 w1:=by rw[hw1];exact(Keep.alloc _ _ _).allocs _
 have hkw:Keep [] w w1:=by
  refine Keep.trans (W1:=A3) ?_ hk1 (by simp)
  refine Keep.of ?_
  rw[←hA3,←hA1]
  exact((Below.refl _ _).alloc (Nat.le_refl _) _).alloc (by simp) _
 rw[hs3]at bk1 bk4
 have hL:fillOf b mask=fill b mask.testBit b.places.toNat 0 (fun _=>0):=rfl
 refine wp_range (gf:=110) (lb:=#[ptr (w.heap.size+2),ptr (w.heap.size+2+1)]) rfl enters110 (enc:=fun m=>.agg (mac m)) rfl (fillOf b mask) w.heap.size [w.heap.size+2,w.heap.size+2+1] (by omega) (by intro k hk;simp at hk;omega)
  ?seq (fun ms O W=>ms=[]∧O=[w.heap.size+1]∧Box W (w.heap.size+1) 4 #[.bool false]) (fun W=>Box W (w.heap.size+1) 4 #[.bool false]) [w.heap.size+1] ?stay ?own ?stayx ?start
  (fun m _ a₁ _=>a₁={tmps:=#[.agg #[.int .i64 b.beat,.int .i64 b.places,v2,v3,v4],.int .i64 mask,.pointer (some ⟨w.heap.size,0,none⟩),undef,.pointer (some ⟨w.heap.size+1,0,none⟩),
    .agg #[.int .i64 b.beat,.int .i64 b.places,v2,v3,v4],.int .i64 mask,.func (.func 110) #[] #[ptr (w.heap.size+2),ptr (w.heap.size+2+1)],.agg (mac m)],defers:=[]})
  ?assign (fun h _ _=>h) ?body ?done ?stop
 case seq=>
  intro l W O J Jx hR hk hJ
  exact iter_any HB.out HV.out hm (by omega) hR (hk.box bk1 (by simp)) (hk.box bk4 (by simp)) ((hkw.trans hk (by simp)).below (by simp) (Nat.le_refl _)) hJ (Nat.le_refl _)
 case stay=>
  rintro ms O W W' ⟨rfl,rfl,h1⟩ hs hk
  exact⟨rfl,rfl,(hk _ (by simp)).trans h1⟩
 case own=>
  rintro ms O W ⟨rfl,rfl,h1⟩ k hk
  have:=h1.lt
  simp only[List.mem_cons,List.not_mem_nil,or_false]at hk
  subst hk
  exact⟨by omega,this,by simp⟩
 case stayx=>
  intro W W' h hk
  exact(hk _ (by omega)).trans h
 case start=>
  exact⟨rfl,rfl,hk1.box b2 (by simp)⟩
 case assign=>
  intro l ms x O W K hI hK
  clear HB HV HW1 hw1 hk1 hkw hL bk1 bk4 z0 z1 z2 z3 z4 b1 b2
  refine wpIn_skip (hK _ _ (Keep.refl _ _) ?_)
  have hz:((#[8]:Array Tmp).zip #[Value.agg (mac x)])=#[(8,.agg (mac x))]:=by simp
  simp only[hz,List.foldl_toArray',List.foldl_cons,List.foldl_nil]
  rfl
 case body=>
  rintro l ms x O N a₁ W ⟨rfl,rfl,h1⟩ hlen hO hN hwN rfl
  have c0:W.cell? ⟨w.heap.size+1,0,none⟩=some (.bool false):=h1.cell 0 rfl
  have f0:W.frozen? ⟨w.heap.size+1,0,none⟩=false:=h1.warm 0
  have H1:Hid (Box W (w.heap.size+1) 4 #[.bool false]):=h1
  clear HB HV HW1 hw1 hk1 hkw hL bk1 bk4 z0 z1 z2 z3 z4 b1 b2 h1
  gi_wp2
  exact⟨H1.out.set 0 (.bool false),Keep.set W (by simp) _⟩
 case done=>
  rintro D O' W hO' ⟨hL,rfl,h1⟩ hk hD hDw
  have c0:W.cell? ⟨w.heap.size+1,0,none⟩=some (.bool false):=h1.cell 0 rfl
  have f0:W.frozen? ⟨w.heap.size+1,0,none⟩=false:=h1.warm 0
  have HK:Hid (Below w.heap.size w W):=(hkw.trans hk (by intro k hk;simp at hk;right;omega)).below (by simp) (Nat.le_refl _)
  have HL:Hid (fillOf b mask=[]):=hL
  have H1:Hid (Box (W.setCell ⟨w.heap.size+1,0,none⟩ (.bool true)) (w.heap.size+1) 4 #[.bool true]):=h1.set 0 (.bool true)
  have HD:Hid ((W.setCell ⟨w.heap.size+1,0,none⟩ (.bool true)).heap[D]?=some (.deferred (some []))):=(Below.heap_setCell _ _ _ _ (by show D≠w.heap.size+1;omega)).trans hD
  clear hkw hk HB HV HW1 hw1 hk1 hL bk1 bk4 h1 hD z0 z1 z2 z3 z4 b1 b2
  go_wp2
  refine⟨by simp,.inl ⟨_,_,rfl,run_takeDeferred HD.out,?_⟩⟩
  have HP:Hid (Keep [D] (W.setCell ⟨w.heap.size+1,0,none⟩ (.bool true)) ((W.setCell ⟨w.heap.size+1,0,none⟩ (.bool true)).putObj D (.deferred none))):=Keep.putObj _ (by simp) _
  have H2:Hid (Box ((W.setCell ⟨w.heap.size+1,0,none⟩ (.bool true)).putObj D (.deferred none)) (w.heap.size+1) 4 #[.bool true]):=HP.out.box H1.out (by simp;omega)
  have c2:((W.setCell ⟨w.heap.size+1,0,none⟩ (.bool true)).putObj D (.deferred none)).cell? ⟨w.heap.size+1,0,none⟩=some (.bool true):=H2.out.cell 0 rfl
  refine⟨.bool true,by rw[results_cell rfl];go_simp,by rw[show emptyOf b mask=true from decide_eq_true HL.out],(HK.out.setCell (p:=⟨w.heap.size+1,0,none⟩) (by show w.heap.size≤w.heap.size+1;omega) _).trans (HP.out.below (by simp;omega) (by have:=HK.out.size;simpa [World.setCell]using this))⟩
 case stop=>
  rintro D W hne h1 hk hD hDw
  have HK:Hid (Below w.heap.size w W):=(hkw.trans hk (by intro k hk;simp at hk;right;omega)).below (by simp) (Nat.le_refl _)
  have HL:Hid (fillOf b mask≠ []):=hne
  have H1:Hid (Box W (w.heap.size+1) 4 #[.bool false]):=h1
  clear hkw hk HB HV HW1 hw1 hk1 hL bk1 bk4 h1 z0 z1 z2 z3 z4 b1 b2 hne
  go_wp2
  refine⟨by simp,.inl ⟨_,_,rfl,run_takeDeferred hD,?_⟩⟩
  have HP:Hid (Keep [D] W (W.putObj D (.deferred none))):=Keep.putObj _ (by simp) _
  have H2:Hid (Box (W.putObj D (.deferred none)) (w.heap.size+1) 4 #[.bool false]):=HP.out.box H1.out (by simp;omega)
  have c2:(W.putObj D (.deferred none)).cell? ⟨w.heap.size+1,0,none⟩=some (.bool false):=H2.out.cell 0 rfl
  refine⟨.bool false,by rw[results_cell rfl];go_simp,by rw[show emptyOf b mask=false from decide_eq_false HL.out],HK.out.trans (HP.out.below (by simp;omega) HK.out.size)⟩
end Go.Proofs.Cz
end
section
namespace Go.Proofs.Cz
open Go.RowKit
def bitsTo (mask:Nat):Nat→List Int
 |0=>[]
 |k+1=>bitsTo mask k++(if mask.testBit k then [(k:Int)]else [])
theorem bitsTo_len (mask:Nat):∀k,(bitsTo mask k).length≤k
 |0=>Nat.le_refl _
 |k+1=>by
  have:=bitsTo_len mask k
  unfold bitsTo
  rw[List.length_append]
  split<;>simp<;>omega
theorem bitsTo_yes {mask k:Nat} (h:mask.testBit k=true):bitsTo mask (k+1)=bitsTo mask k++[(k:Int)]:=by rw[bitsTo,if_pos h]
theorem bitsTo_no {mask k:Nat} (h:¬mask.testBit k=true):bitsTo mask (k+1)=bitsTo mask k:=by rw[bitsTo,if_neg h,List.append_nil]
theorem bits_end:∀(mask:Fin 16) (k:Fin 5),mask.1/2^k.1=0→bitsTo mask.1 k.1=bitsTo mask.1 4:=by decide+kernel
theorem bits_go:∀(mask:Fin 16) (k:Fin 5),0<mask.1/2^k.1→(0:Int)<((mask.1:Nat):Int)/2^k.1∧k.1<4:=by decide+kernel
theorem bits_stop:∀(mask:Fin 16) (k:Fin 5),¬0<mask.1/2^k.1→((mask.1:Nat):Int)/2^k.1≤0:=by decide+kernel
set_option maxHeartbeats 4000000 in
set_option maxRecDepth 20000 in
theorem listOf_any (w:World) (mask:Nat) (hm:mask<16):Calls Tz.prog 92 #[.int .i64 mask] w (RetL w (bitsTo mask 4)):=by
 obtain⟨i0,hi,hz0,hz1,hz2⟩:=info_parts info3
 go_enter Tz.func92,Tz.ntmps92
 go_wp2
 go_loopw [3,4] (fun v i wr=>∃k:Nat,k≤4∧i=.int .i64 k∧Hid (wr.ownsRow w.heap.size 3 1 v (bitsTo mask k).length ((bitsTo mask k).map (Value.int .i64)))∧Hid (Below w.heap.size w wr)) (fun _ i _=>4-(intOf i).toNat)
 case atStart=>exact⟨0,Nat.zero_le _,rfl,World.ownsRow_nil _ _ _ _,Below.refl _ _⟩
 case round=>
  obtain⟨k,hk,rfl,hO,hB⟩:=hrel
  by_cases hlt:0<mask/2^k
  ·obtain⟨hgt,hk4⟩:=bits_go ⟨mask,hm⟩ ⟨k,by omega⟩ hlt
   simp only at hgt hk4
   have hlen:=bitsTo_len mask k
   have hsz:=hB.out.size
   have HO:=hO
   have hw1:wrap64 ((k:Int)+1)=((k+1:Nat):Int):=by unfold wrap64;omega
   clear hlt
   by_cases hbt:mask.testBit k=true
   ·have hb2:=bits_yes hm hk4 hbt
    have HT:Hid (mask.testBit k=true):=hbt
    clear hbt
    go_wp2_with(at_builtin;refine wpList_append_own _ rfl (.tmp 16) (.tmp 18) 32 rfl w.heap.size 3 i0 (.int .i64 0) 1 8 under32 hi hz0 hz1 hz2 rfl (by decide) _ _ _ rfl (HO.out.alloc _) ⟨_,0,none⟩ 1 1 [.int .i64 k] rfl rfl (one_new _ _ _) (one_int _) (by unfold maxLen;omega) (by omega) (by simp;omega) ?_;intro v' w1 hown' hgrow _)
    have HO2:Hid (w1.ownsRow w.heap.size 3 1 v' (bitsTo mask (k+1)).length ((bitsTo mask (k+1)).map (Value.int .i64))):=by
     rw[bitsTo_yes HT.out,List.length_append,List.map_append];exact hown'
    have HB2:Hid (Below w.heap.size w w1):=Below.grown (Below.alloc hB.out hsz _) hgrow (by simp;omega) (owns_ge HO.out)
    clear hown' hgrow
    go_round
    case rel=>exact⟨k+1,by omega,by go_num,HO2,HB2⟩
    case measure=>simp[intOf];omega
   ·have hb2:=bits_no hm hk4 hbt
    rw[←bitsTo_no hbt]at HO
    clear hbt
    go_wp2
    go_round
    case rel=>exact⟨k+1,by omega,by go_num,HO,hB⟩
    case measure=>simp[intOf];omega
  ·have hst:=bits_stop ⟨mask,hm⟩ ⟨k,by omega⟩ hlt
   have HE:Hid (bitsTo mask k=bitsTo mask 4):=bits_end ⟨mask,hm⟩ ⟨k,by omega⟩ (Nat.eq_zero_of_not_pos hlt)
   simp only at hst
   clear hlt
   go_wp2
   go_ret
   exact RetL.mk (by rw[←HE.out];exact IntsAt.of_owns hO.out) hB.out
theorem isNaN_any (w:World) (x:Int):Calls Tz.prog 130 #[.int .i64 x] w (Pure1 w (.bool false)):=by
 go_enter Tz.func130,Tz.ntmps130
 go_wp2
 go_ret
 exact Pure1.of (.bool false) rfl
end Go.Proofs.Cz
end
