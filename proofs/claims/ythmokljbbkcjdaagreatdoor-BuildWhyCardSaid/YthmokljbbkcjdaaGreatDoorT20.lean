/- A part of the proof that BuildWhy returns true. Conditions: none. -/
import Derived.Test.YthmokljbbkcjdaaGreatDoorT17
import Derived.Test.YthmokljbbkcjdaaGreatDoorT19
import Derived.Deep.RegionHeld3
import Derived.Deep.RegionLaw
set_option linter.unusedVariables false
set_option linter.unusedSimpArgs false
section
namespace Go.Proofs.Cz
open Go.RowKit
theorem step_append_own {P:Program} {w:World} {ops:Array Oper} {o:Oper} {a:Act} {K:Act→World→Prop} {Q:Exit→Act→World→Prop} {E:Prop} (hgd:o.guard=none) (s x:Operand) (t:TypeId)
 (ho:o.op=.call {callee:=.builtin .append,args:=#[s,x],argTypes:=#[t,t]})
 (base:Nat) (e:TypeId) (i:TypeInfo) (z:Value) (size bytes:Nat) (ht:P.underlying t=some (.slice e)) (hi:P.info? e=some i) (hz:i.zero=some z)
 (hsize:i.size=size) (hby:i.bytes=bytes) (hzs:z.cells.size=size) (hsz:0<size)
 (v:Value) (n:Nat) (xs:List Value) (hs:a.eval s=v) (hown:w.ownsRow base e size v n xs)
 (ad:Addr) (m c:Nat) (news:List Value) (hx:a.eval x=.slice (some ad) m c) (hl:news.length=m*size) (hnews:∀j u,news[j]?=some u→w.cell? (ad.add j)=some u) (h1:∀u∈news,u.oneCell'=true)
 (h63:n+m≤maxLen) (hbytes:(n+m)*bytes≤140737488355328) (hbase:base≤w.heap.size)
 (h:∀v' w',w'.ownsRow base e size v' (n+m) (xs++news)→w.grownBy w' v.ownBlock→K (a.put o.dst v') w'):
 if Region.wanted o (yielded ops a.tmps)=true then Oper.wp P o a w K Q else E:=by
 have hw:Region.wanted o (yielded ops a.tmps)=true:=by simp[Region.wanted,hgd]
 rw[if_pos hw]
 exact wp_append_own w s x t ho base e i z size bytes ht hi hz hsize hby hzs hsz v n xs hs hown ad m c news hx hl hnews h1 h63 hbytes hbase fun v' w' h2 h3 _=>h v' w' h2 h3
set_option maxHeartbeats 2000000 in
set_option maxRecDepth 20000 in
theorem drop_any (w:World) (v:Value) (l:List Int) (i:Nat) (hi:i<l.length) (hl:l.length≤1000) (h:IntsAt w v l):Calls Tz.prog 15 #[v,.int .i64 i] w (RetL w (l.eraseIdx i)):=by
 obtain⟨a,c,h1,h2⟩:=h
 obtain⟨⟨blk,off,sp⟩,y,rfl,hy,y0⟩:=h1.elem h2 hi
 obtain rfl:sp=none:=y0.1
 have H:Hid (SlAt w v l.length (some ⟨blk,off,none⟩) c∧∀b,some ⟨blk,off,none⟩=some b→∀j x,l[j]?=some x→At w b j (.int .i64 x)):=⟨h1,h2⟩
 obtain⟨rfl,l1,m1,n1,r1⟩:=h1
 unfold maxLen at m1
 obtain⟨i0,hi0,hz0,hz1,hz2⟩:=info_parts info3
 clear h2 n1 r1 hy y0
 have HN:Hid (∀X,Below w.heap.size w X→∀j u,((l.take i).map (Value.int .i64))[j]?=some u→X.cell? ((⟨blk,off,none⟩:Addr).add j)=some u):=fun X hX j u hu=>by
  rw[List.getElem?_map]at hu
  cases hx:(l.take i)[j]? with
  |none=>rw[hx]at hu;cases hu
  |some x=>
   rw[hx]at hu
   simp only[Option.map_some,Option.some.injEq]at hu
   subst hu
   have hj:j<i:=by have:=(List.getElem?_eq_some_iff.1 hx).1;simp at this;omega
   rw[List.getElem?_take,if_pos hj]at hx
   rw[show(⟨blk,off,none⟩:Addr).add j=⟨blk,off+j,none⟩ by unfold Addr.add;split<;>simp_all]
   exact((H.out.2 _ rfl j x hx).later (Kp.of hX)).2
 have HM:Hid (∀X,Below w.heap.size w X→∀j u,((l.drop (i+1)).map (Value.int .i64))[j]?=some u→X.cell? ((⟨blk,off+(i+1),none⟩:Addr).add j)=some u):=fun X hX j u hu=>by
  rw[List.getElem?_map]at hu
  cases hx:(l.drop (i+1))[j]? with
  |none=>rw[hx]at hu;cases hu
  |some x=>
   rw[hx]at hu
   simp only[Option.map_some,Option.some.injEq]at hu
   subst hu
   rw[List.getElem?_drop]at hx
   rw[show(⟨blk,off+(i+1),none⟩:Addr).add j=⟨blk,off+(i+1+j),none⟩ by unfold Addr.add;split<;>simp_all [Nat.add_assoc]]
   exact((H.out.2 _ rfl (i+1+j) x hx).later (Kp.of hX)).2
 have hO:∀l':List Int,∀u∈l'.map (Value.int .i64),u.oneCell'=true:=fun l' u hu=>by obtain⟨x,_,rfl⟩:=List.mem_map.1 hu;rfl
 have ht:(l.take i).length=i:=by simp;omega
 have hd:(l.drop (i+1)).length=l.length-(i+1):=by simp
 have HE:Hid ((l.eraseIdx i)=l.take i++l.drop (i+1)):=List.eraseIdx_eq_take_drop_succ ..
 have h1i:(i:Int)≤(c:Int):=by omega
 obtain⟨k,hk⟩:∃k,i+1=k:=⟨_,rfl⟩
 have HK:Hid (i+1=k):=hk
 have h2i:(k:Int)≤(l.length:Int):=by omega
 have HL:Hid (l.length≤1000∧i<l.length):=⟨hl,hi⟩
 have hw1:wrap64 ((i:Int)+1)=(k:Int):=by unfold wrap64;omega
 have hw2:IntKind.i64.wrap ((i:Int)+1)=(k:Int):=by rw[IntKind.wrap_i64];omega
 rw[hk]at HM HE hd
 by_cases hc:c=k
 ·subst hc
  have HLK:Hid (l.length=c):=(by omega:l.length=c)
  have hdk:l.drop c=[]:=List.drop_eq_nil_of_le (by omega)
  have h3i:(l.length:Int)≤(c:Int):=by omega
  have HDK:Hid (l.drop c=[]):=hdk
  clear hdk
  go_enter Tz.func15,Tz.ntmps15
  go_wp2_with fail
  go_region_held3 (fun w'=>Below w.heap.size w w')
   (first|exact HB2.out|exact HB1.out|exact Below.drewN (Below.refl _ w) 1|exact(Below.drewN (Below.refl _ w) 1).alloc (Nat.le_refl _) _)
   (first
     |(refine step_append_own rfl (.tmp 5) (.tmp 8) 32 rfl w.heap.size 3 i0 (.int .i64 0) 1 8 under32 hi0 hz0 hz1 hz2 rfl (by decide) _ 0 [] rfl (World.ownsRow_made (w.drewN 1) #[] 0 (Nat.le_refl _) (by unfold maxLen;omega) rfl) ⟨blk,off,none⟩ i c ((l.take i).map (Value.int .i64)) rfl (by rw[List.length_map,ht];omega) (HN.out _ (by assumption)) (hO _) (by unfold maxLen;omega) (by omega) (by simp) ?_
       intro v1 w1 ho1 hg1
       have HO1:Hid (w1.ownsRow w.heap.size 3 1 v1 i ((l.take i).map (Value.int .i64))):=(by simpa using ho1:w1.ownsRow w.heap.size 3 1 v1 i ((l.take i).map (Value.int .i64)))
       have HB1:Hid (Below w.heap.size w w1):=Below.grown (B:=w.heap.size) (by assumption) hg1 (by simp) (fun k hk=>by cases hk;exact Nat.le_refl _)
       clear ho1 hg1)
     |(refine step_append_own rfl (.tmp 9) (.tmp 13) 32 rfl w.heap.size 3 i0 (.int .i64 0) 1 8 under32 hi0 hz0 hz1 hz2 rfl (by decide) _ i _ rfl HO1.out ⟨blk,off,none⟩ 0 0 [] rfl rfl (fun j u h=>by simp at h) (fun u h=>by simp at h) (by unfold maxLen;omega) (by omega) HB1.out.size ?_
       intro v2 w2 ho2 hg2
       have HO2:Hid (IntsAt w2 v2 (l.eraseIdx i)):=(by
        refine IntsAt.of_owns (B:=w.heap.size) (e:=3) ?_
        rw[HE.out,List.map_append,List.length_append,ht,HDK.out]
        exact ho2)
       have HB2:Hid (Below w.heap.size w w2):=Below.grown HB1.out hg2 HB1.out.size (fun k hk=>(ownsRow_lt HO1.out k hk).1)
       clear ho2 hg2))
  go_wp2
  go_ret
  exact RetL.mk HO2.out HB2.out
 ·have hc2:¬k=c:=fun e=>hc e.symm
  have h3i:(l.length:Int)≤(c:Int):=by omega
  go_enter Tz.func15,Tz.ntmps15
  go_wp2_with fail
  go_region_held3 (fun w'=>Below w.heap.size w w')
   (first|exact HB2.out|exact HB1.out|exact Below.drewN (Below.refl _ w) 1|exact(Below.drewN (Below.refl _ w) 1).alloc (Nat.le_refl _) _)
   (first
     |(refine step_append_own rfl (.tmp 5) (.tmp 8) 32 rfl w.heap.size 3 i0 (.int .i64 0) 1 8 under32 hi0 hz0 hz1 hz2 rfl (by decide) _ 0 [] rfl (World.ownsRow_made (w.drewN 1) #[] 0 (Nat.le_refl _) (by unfold maxLen;omega) rfl) ⟨blk,off,none⟩ i c ((l.take i).map (Value.int .i64)) rfl (by rw[List.length_map,ht];omega) (HN.out _ (by assumption)) (hO _) (by unfold maxLen;omega) (by omega) (by simp) ?_
       intro v1 w1 ho1 hg1
       have HO1:Hid (w1.ownsRow w.heap.size 3 1 v1 i ((l.take i).map (Value.int .i64))):=(by simpa using ho1:w1.ownsRow w.heap.size 3 1 v1 i ((l.take i).map (Value.int .i64)))
       have HB1:Hid (Below w.heap.size w w1):=Below.grown (B:=w.heap.size) (by assumption) hg1 (by simp) (fun k hk=>by cases hk;exact Nat.le_refl _)
       clear ho1 hg1)
     |(refine step_append_own rfl (.tmp 9) (.tmp 13) 32 rfl w.heap.size 3 i0 (.int .i64 0) 1 8 under32 hi0 hz0 hz1 hz2 rfl (by decide) _ i _ rfl HO1.out ⟨blk,off+k,none⟩ (l.length-k) (c-k) ((l.drop k).map (Value.int .i64)) rfl (by rw[List.length_map,hd];omega) (HM.out _ (by assumption)) (hO _) (by unfold maxLen;omega) (by omega) HB1.out.size ?_
       intro v2 w2 ho2 hg2
       have HO2:Hid (IntsAt w2 v2 (l.eraseIdx i)):=(by
        refine IntsAt.of_owns (B:=w.heap.size) (e:=3) ?_
        rw[HE.out,List.map_append,List.length_append,ht,hd]
        exact ho2)
       have HB2:Hid (Below w.heap.size w w2):=Below.grown HB1.out hg2 HB1.out.size (fun k hk=>(ownsRow_lt HO1.out k hk).1)
       clear ho2 hg2))
  go_wp2
  go_ret
  exact RetL.mk HO2.out HB2.out
end Go.Proofs.Cz
end
section
namespace Go.Proofs.Cz
open Go.RowKit
def freeB:ByteArray:=⟨#[102,114,101,101]⟩
def nameTo (l:List Part):Nat→ByteArray
 |0=>freeB
 |k+1=>match l[k]? with
  |some x=>if x.name=nameTo l k then freeB++⟨#[UInt8.ofNat (48+k)]⟩else nameTo l k
  |none=>nameTo l k
def freeFits (l:List Int):Nat→List Int
 |0=>[]
 |k+1=>freeFits l k++(if(k:Int)∈l then []else [(k:Int)])
def freePart (b:Book) (l:List Int):Part:={name:=nameTo b.parts b.parts.length,cost:=0,stock:=0,lo:=0,hi:=0,fits:=freeFits l b.places.toNat}
def freeOf (b:Book) (l:List Int):Book:={b with parts:=b.parts++[freePart b l],trials:=[]}
theorem nameTo_yes {l:List Part} {k:Nat} {x:Part} (hx:l[k]?=some x) (h:x.name=nameTo l k):nameTo l (k+1)=freeB++⟨#[UInt8.ofNat (48+k)]⟩:=by rw[nameTo,hx];simp[h]
theorem nameTo_no {l:List Part} {k:Nat} {x:Part} (hx:l[k]?=some x) (h:x.name≠nameTo l k):nameTo l (k+1)=nameTo l k:=by rw[nameTo,hx];simp[h]
theorem freeFits_len (l:List Int):∀k,(freeFits l k).length≤k
 |0=>Nat.le_refl _
 |k+1=>by
  have:=freeFits_len l k
  unfold freeFits
  split<;>simp<;>omega
theorem conv_one {W:World} {g:Nat} {n:Int} (h:Box W g 5 #[.int .u8 n]):(Go.convert 77 9 (.slice (some ⟨g,0,none⟩) 1 1)).run Tz.prog W=.ok (.string ⟨#[UInt8.ofNat n.toNat]⟩) W:=by
 have u9:Tz.prog.underlying 9=some .string:=by rw[Tz.under];exact Tryz.underlying9
 have u77:Tz.prog.underlying 77=some (.slice 5):=by rw[Tz.under];exact Tryz.underlying77
 have u5:Tz.prog.underlying 5=some (.int .u8):=by rw[Tz.under];exact Tryz.underlying5
 have c0:W.cell? ⟨g,0,none⟩=some (.int .u8 n):=h.cell 0 rfl
 simp[Go.convert,run_underlying u77,run_underlying u9,run_underlying u5,Conv.bytesToString,loadCells,loadCellsFrom,go_sem,c0]
 rfl
theorem Keep.grow {O:List Nat} {W W1 W2:World} {row:Option Nat} (h:Keep O W W1) (hg:W1.grownBy W2 row) (hr:∀k,row=some k→W.heap.size≤k):Keep O W W2:=
 ⟨hg.os.trans h.os,hg.tape.trans h.tape,hg.output.trans h.output,Nat.le_trans h.size hg.size,fun k hk hn=>(hg.block k (Nat.lt_of_lt_of_le hk h.size) (fun e=>by have:=hr k e.symm;omega)).trans (h.block k hk hn)⟩
theorem own_ne {a n m c:Nat} (h:n≠a):some n≠(Value.slice (some ⟨a,0,none⟩) m c).ownBlock:=fun e=>by
 have h2:n=a:=Option.some.inj e
 omega
theorem box_push {W:World} {h:Array Obj} {n:Nat} {t:TypeId} {c:Array Value} (e:W.heap=h.push (.cells c t)) (hn:n=h.size):Box W n t c:=by
 unfold Box
 rw[e,hn]
 exact Array.getElem?_push_size
theorem box_push2 {W:World} {h:Array Obj} {X:Obj} {n:Nat} {t:TypeId} {c:Array Value} (e:W.heap=(h.push (.cells c t)).push X) (hn:n=h.size):Box W n t c:=by
 unfold Box
 rw[e,hn,Array.getElem?_push,if_neg (by simp)]
 exact Array.getElem?_push_size
theorem own_empty {W:World} {B g:Nat} {e:TypeId} {s:Nat} (h:Box W g e #[]) (hb:B≤g):W.ownsRow B e s (.slice (some ⟨g,0,none⟩) 0 0) 0 []:=⟨by simp,.inr ⟨g,0,#[],rfl,hb,h,Nat.le_refl _,Nat.zero_le _,by simp,by simp⟩⟩
def MidBox (n:Nat) (u0 u1 u3 u4:Value) (w:World):Prop:=∃v,Box w n 26 #[u0,u1,v,u3,u4]
theorem MidBox.on {n:Nat} {u0 u1 u3 u4:Value} {w w':World} (h:MidBox n u0 u1 u3 u4 w) (hb:w'.heap[n]?=w.heap[n]?):MidBox n u0 u1 u3 u4 w':=by
 obtain⟨v,h⟩:=h
 exact⟨v,hb.trans h⟩
theorem MidBox.lt {n:Nat} {u0 u1 u3 u4:Value} {w:World} (h:MidBox n u0 u1 u3 u4 w):n<w.heap.size:=by obtain⟨v,h⟩:=h;exact h.lt
theorem MidBox.alloc {n:Nat} {u0 u1 u3 u4:Value} {w:World} (h:MidBox n u0 u1 u3 u4 w) (b:Obj):MidBox n u0 u1 u3 u4 (w.alloc b):=h.on ((Keep.alloc [] w b).block n h.lt (by simp))
theorem MidBox.set {n:Nat} {u0 u1 u3 u4:Value} {w:World} (h:MidBox n u0 u1 u3 u4 w) (v:Value):MidBox n u0 u1 u3 u4 (w.setCell ⟨n,2,none⟩ v):=by
 obtain⟨u,h⟩:=h
 exact⟨v,h.set 2 v⟩
theorem free_book {w WF:World} {b:Book} {l:List Int} {N B:Nat} {nm:ByteArray} {v v2 v3 v4 f:Value} {fs:List Value} (hb:BookAt w (.agg #[.int .i64 b.beat,.int .i64 b.places,v2,v3,v4]) b)
 (hfl:fs.length=b.parts.length) (hfi:∀(j:Nat) (x:Part) (f:Value),b.parts[j]?=some x→fs[j]?=some f→IntsAt w f x.fits) (hN:b.places=(N:Int)) (hnm:nameTo b.parts b.parts.length=nm) (hk:Kp w WF)
 (ho:WF.ownsRow B 34 6 v (b.parts.length+1) (partsC b.parts fs++[.string nm,.int .i64 0,.int .i64 0,.int .i64 0,.int .i64 0,f])) (hf:IntsAt WF f (freeFits l N)):
 BookAt WF (.agg #[.int .i64 b.beat,.int .i64 b.places,v,v3,.slice none 0 0]) (freeOf b l):=by
 obtain⟨_,_,_,e,_,h3,_⟩:=hb
 simp only[Value.agg.injEq,Array.mk.injEq,List.cons.injEq,true_and,and_true]at e
 obtain⟨_,rfl,_⟩:=e
 have hNN:b.places.toNat=N:=by omega
 refine⟨_,_,_,rfl,PartsAt.of_row (B:=B) (fs:=fs++[f]) ?_ (by simp[freeOf,hfl]) ?_,h3.later hk,none,0,⟨rfl,Nat.le_refl _,by unfold maxLen;omega,fun _=>rfl,(fun b hb=>by cases hb)⟩,fun b hb=>by cases hb⟩
 ·show WF.ownsRow B 34 6 v (b.parts++[freePart b l]).length (partsC (b.parts++[freePart b l]) (fs++[f]))
  rw[partsC_snoc _ _ _ _ hfl,List.length_append]
  show WF.ownsRow B 34 6 v (b.parts.length+1) (partsC b.parts fs++[.string (nameTo b.parts b.parts.length),.int .i64 0,.int .i64 0,.int .i64 0,.int .i64 0,f])
  rw[hnm]
  exact ho
 ·intro j x f' hj hfj
  change(b.parts++[freePart b l])[j]?=some x at hj
  by_cases hlt:j<b.parts.length
  ·rw[List.getElem?_append_left hlt]at hj
   rw[List.getElem?_append_left (by omega)]at hfj
   exact(hfi j x f' hj hfj).later hk
  ·have h1:=(List.getElem?_eq_some_iff.1 hj).1
   simp at h1
   have e:j=b.parts.length:=by omega
   subst e
   rw[List.getElem?_append_right (Nat.le_refl _),Nat.sub_self]at hj
   rw[List.getElem?_append_right (by omega),hfl,Nat.sub_self]at hfj
   simp at hj hfj
   subst hj hfj
   show IntsAt WF f (freeFits l b.places.toNat)
   rw[hNN]
   exact hf
set_option maxHeartbeats 2000000 in
set_option maxRecDepth 20000 in
theorem free_any (w:World) (v vp:Value) (b:Book) (l:List Int) (hb:BookAt w v b) (hm:1≤b.parts.length∧b.parts.length≤4) (hpl:1≤b.places∧b.places≤4) (hl:IntsAt w vp l):Calls Tz.prog 11 #[v,vp] w (RetBk w (freeOf b l)):=by
 obtain⟨a2,c2,a3,c3,a4,c4,rfl⟩:=hb.parts'
 have HB:Hid (BookAt w (.agg #[.int .i64 b.beat,.int .i64 b.places,.slice a2 b.parts.length c2,.slice a3 b.apart.length c3,.slice a4 b.trials.length c4]) b):=hb
 have HLP:Hid (IntsAt w vp l):=hl
 obtain⟨lp,cp,⟨rfl,_,_,_,_⟩,_⟩:=hl
 obtain⟨i3,hi3,hz30,hz31,hz32⟩:=info_parts info3
 obtain⟨i4,hi4,hz40,hz41,hz42⟩:=info_parts info34
 obtain⟨A1,hA1⟩:∃A,w.alloc (.cells #[.int .i64 b.beat,.int .i64 b.places,.slice a2 b.parts.length c2,.slice a3 b.apart.length c3,.slice a4 b.trials.length c4] 26)=A:=⟨_,rfl⟩
 obtain⟨A2,hA2⟩:∃A,A1.alloc (.cells #[.int .i64 0,.int .i64 0,.slice none 0 0,.slice none 0 0,.slice none 0 0] 26)=A:=⟨_,rfl⟩
 obtain⟨A3,hA3⟩:∃A,A2.alloc (.cells #[.int .i64 b.beat,.int .i64 b.places,.slice a2 b.parts.length c2,.slice a3 b.apart.length c3,.slice a4 b.trials.length c4] 26)=A:=⟨_,rfl⟩
 obtain⟨A5,hA5⟩:∃A,A3.setCell ⟨w.heap.size+1+1,4,none⟩ (.slice none 0 0)=A:=⟨_,rfl⟩
 obtain⟨A4,hA4⟩:∃A,A5.alloc (.cells #[.string freeB,.int .i64 0,.int .i64 0,.int .i64 0,.int .i64 0,.slice none 0 0] 34)=A:=⟨_,rfl⟩
 have hs1:A1.heap.size=w.heap.size+1:=by rw[←hA1];simp
 have hs2:A2.heap.size=w.heap.size+1+1:=by rw[←hA2];simp[hs1]
 have hs3:A3.heap.size=w.heap.size+1+1+1:=by rw[←hA3];simp[hs2]
 have hs5:A5.heap.size=w.heap.size+1+1+1:=by rw[←hA5];simp[hs3,World.setCell]
 have hs4:A4.heap.size=w.heap.size+1+1+1+1:=by rw[←hA4];simp[hs5]
 have hk2:Keep [] A1 A2:=by rw[←hA2];exact Keep.alloc _ _ _
 have hk3:Keep [] A2 A3:=by rw[←hA3];exact Keep.alloc _ _ _
 have hk5:Keep [w.heap.size+1+1] A3 A5:=by rw[←hA5];exact Keep.set _ (by simp) _
 have hk4:Keep [] A5 A4:=by rw[←hA4];exact Keep.alloc _ _ _
 have b02:Box A2 w.heap.size 26 #[.int .i64 b.beat,.int .i64 b.places,.slice a2 b.parts.length c2,.slice a3 b.apart.length c3,.slice a4 b.trials.length c4]:=hk2.box (by rw[←hA1];exact Box.new _ _ _) (by simp)
 have bo3:Box A3 (w.heap.size+1+1) 26 #[.int .i64 b.beat,.int .i64 b.places,.slice a2 b.parts.length c2,.slice a3 b.apart.length c3,.slice a4 b.trials.length c4]:=by rw[←hA3,←hs2];exact Box.new _ _ _
 have B0:Hid (Box A4 w.heap.size 26 #[.int .i64 b.beat,.int .i64 b.places,.slice a2 b.parts.length c2,.slice a3 b.apart.length c3,.slice a4 b.trials.length c4]):=
  hk4.box (hk5.box (hk3.box b02 (by simp)) (by simp;omega)) (by simp)
 have BR:Hid (Box A4 (w.heap.size+1) 26 #[.int .i64 0,.int .i64 0,.slice none 0 0,.slice none 0 0,.slice none 0 0]):=hk4.box (hk5.box (hk3.box (by rw[←hA2,←hs1];exact Box.new _ _ _) (by simp)) (by simp)) (by simp)
 have BO:Hid (Box A4 (w.heap.size+1+1) 26 #[.int .i64 b.beat,.int .i64 b.places,.slice a2 b.parts.length c2,.slice a3 b.apart.length c3,.slice none 0 0]):=hk4.box (by rw[←hA5];exact bo3.set 4 _) (by simp)
 have BX:Hid (Box A4 (w.heap.size+1+1+1) 34 #[.string freeB,.int .i64 0,.int .i64 0,.int .i64 0,.int .i64 0,.slice none 0 0]):=by rw[←hA4,←hs5];exact Box.new _ _ _
 have HW:Hid (Below w.heap.size w A4):=by
  have h1:Below w.heap.size w A3:=by rw[←hA3,←hA2,←hA1];exact(((Keep.alloc [] _ _).allocs _).allocs _).below (by simp) (Nat.le_refl _)
  exact h1.trans ((hk5.trans' (hk4.mono (O':=[w.heap.size+1+1]) (by simp))).below (by simp;omega) h1.size)
 have HPL:Hid (1≤b.places∧b.places≤4):=hpl
 have HM:Hid (1≤b.parts.length∧b.parts.length≤4):=hm
 have z0:=b02.cell 0 rfl
 have z1:=b02.cell 1 rfl
 have z2:=b02.cell 2 rfl
 have z3:=b02.cell 3 rfl
 have z4:=b02.cell 4 rfl
 have y4:=bo3.cell 4 rfl
 have y5:=bo3.warm 4
 have x1:=BX.out.cell 1 rfl
 have x2:=BX.out.cell 2 rfl
 have x3:=BX.out.cell 3 rfl
 have x4:=BX.out.cell 4 rfl
 have x5:=BX.out.cell 5 rfl
 have f1:=BX.out.warm 1
 have f2:=BX.out.warm 2
 have f3:=BX.out.warm 3
 have f4:=BX.out.warm 4
 have f5:=BX.out.warm 5
 have e1:=BX.out.same (i:=1) (v:=.int .i64 0) rfl
 have e2:=BX.out.same (i:=2) (v:=.int .i64 0) rfl
 have e3:=BX.out.same (i:=3) (v:=.int .i64 0) rfl
 have e4:=BX.out.same (i:=4) (v:=.int .i64 0) rfl
 have e5:=BX.out.same (i:=5) (v:=.slice none 0 0) rfl
 have hfb:freeB=⟨#[102,114,101,101]⟩:=rfl
 rw[hfb]at hA4
 clear hk2 hk3 hk4 hk5 hb b02 bo3
 go_enter Tz.func11,Tz.ntmps11
 go_wp2_with fail
 clear z0 z1 z2 z3 z4 y4 y5 x1 x2 x3 x4 x5 f1 f2 f3 f4 f5 e1 e2 e3 e4 e5 hA1 hA2 hA3 hA4 hA5 hfb
 have HPA:Hid (PartsAt w (.slice a2 b.parts.length c2) b.parts):=HB.out.partsAt
 obtain⟨a2',c2',hsp,hep⟩:=HPA.out
 have e:=hsp.eq
 simp only[Value.slice.injEq,true_and]at e
 obtain⟨rfl,rfl⟩:=e
 have HS2:Hid (SlAt w (.slice a2 b.parts.length c2) b.parts.length a2 c2∧_):=⟨hsp,hep⟩
 have hc2:b.parts.length≤c2∧c2≤maxLen:=⟨hsp.le,hsp.big⟩
 unfold maxLen at hc2
 clear hsp hep
 go_loopw [7] (fun i wr=>∃k:Nat,k≤b.parts.length∧i=.int .i64 k∧Hid (Box wr (w.heap.size+1+1+1) 34 #[.string (nameTo b.parts k),.int .i64 0,.int .i64 0,.int .i64 0,.int .i64 0,.slice none 0 0])∧Hid (Keep [w.heap.size+1+1+1] A4 wr)) (fun i _=>b.parts.length-(intOf i).toNat)
 case atStart=>exact⟨0,Nat.zero_le _,rfl,BX.out,Keep.refl _ _⟩
 case round=>
  obtain⟨k,hk,rfl,hX,hK⟩:=hrel
  have HBr:Hid (Below w.heap.size w wr):=HW.out.trans (hK.out.below (by simp;omega) HW.out.size)
  have b0:Box wr w.heap.size 26 #[.int .i64 b.beat,.int .i64 b.places,.slice a2 b.parts.length c2,.slice a3 b.apart.length c3,.slice a4 b.trials.length c4]:=hK.out.box B0.out (by simp;omega)
  have z1:=b0.cell 1 rfl
  have z2:=b0.cell 2 rfl
  by_cases hlt:k<b.parts.length
  ·obtain⟨⟨blk,off,sp⟩,x,rfl,hx,x0,_⟩:=HS2.out.1.elem HS2.out.2 hlt
   obtain rfl:sp=none:=x0.1
   have y0:=(x0.later (Kp.of HBr.out)).2
   have q0:=hX.out.cell 0 rfl
   have q1:=hX.out.warm 0
   have HX:Hid (b.parts[k]?=some x):=hx
   have hk2:(k:Int)<(b.parts.length:Int):=by omega
   obtain⟨nm,hnm⟩:∃nm,nameTo b.parts k=nm:=⟨_,rfl⟩
   have HNM:Hid (nameTo b.parts k=nm):=hnm
   have hk4:k<4:=by omega
   rw[hnm]at q0
   clear x0 hx b0 hnm
   go_wp2
   go_quiet (fail)
   obtain⟨WB,hWB⟩:∃W,(wr.drewN nq).alloc (.cells #[.int .u8 (48+(k:Int))] 5)=W:=⟨_,rfl⟩
   have hkB:Keep [] wr WB:=by rw[←hWB];exact(Keep.of (Below.drewN (Below.refl _ _) nq)).trans (Keep.alloc [] _ _) (by simp)
   have hcv:=conv_one (W:=WB) (g:=wr.heap.size) (n:=48+(k:Int)) (by rw[←hWB];exact Box.new (wr.drewN nq) 5 _)
   rw[show(48+(k:Int)).toNat=48+k by omega]at hcv
   have HXB:Hid (Box WB (w.heap.size+1+1+1) 34 #[.string nm,.int .i64 0,.int .i64 0,.int .i64 0,.int .i64 0,.slice none 0 0]):=by rw[←HNM.out];exact hkB.box hX.out (by simp)
   have HKB:Hid (Keep [w.heap.size+1+1+1] A4 WB):=hK.out.trans' (hkB.mono (by simp))
   have q2:=HXB.out.cell 0 rfl
   have q3:=HXB.out.warm 0
   obtain⟨ub,hub⟩:∃u,UInt8.ofNat (48+k)=u:=⟨_,rfl⟩
   have HUB:Hid (UInt8.ofNat (48+k)=ub):=hub
   rw[hub]at hcv
   clear hub hkB
   go_wp2
   ·rename_i hnq
    have HE:Hid (nameTo b.parts (k+1)=freeB++⟨#[ub]⟩):=by
     have h1:=nameTo_yes HX.out ((name_eq hnq).trans HNM.out.symm)
     rw[HUB.out]at h1
     exact h1
    clear hnq
    refine⟨⟨k+1,by omega,by go_num,?_,HKB.out.trans' (Keep.set _ (by simp) _)⟩,by simp[intOf];omega⟩
    rw[HE.out]
    exact HXB.out.set 0 _
   ·rename_i hnq
    have HE:Hid (nameTo b.parts (k+1)=nm):=by
     have h1:=nameTo_no HX.out (fun e=>name_ne hnq (e.trans HNM.out))
     rw[HNM.out]at h1
     exact h1
    clear hnq
    have HK1:Hid (Keep [w.heap.size+1+1+1] A4 (wr.drewN nq)):=hK.out.trans' (Keep.of (Below.drewN (Below.refl _ _) nq))
    refine⟨⟨k+1,by omega,by go_num,?_,HK1.out⟩,by simp[intOf];omega⟩
    rw[HE.out,←HNM.out]
    exact hX.out
  ·have e:k=b.parts.length:=by omega
   subst e
   obtain⟨nm,hnm⟩:∃nm,nameTo b.parts b.parts.length=nm:=⟨_,rfl⟩
   have HNM:Hid (nameTo b.parts b.parts.length=nm):=hnm
   rw[hnm]at hX
   obtain⟨N,hN⟩:∃N:Nat,b.places=(N:Int):=⟨b.places.toNat,by omega⟩
   have HN:Hid (b.places=(N:Int)):=hN
   rw[hN]at z1
   go_wp2
   obtain⟨wo,hwo⟩:∃wo,wo=wr:=⟨wr,rfl⟩
   rw[←hwo]at hX hK HBr z1 z2⊢
   clear hwo hlt hk b0 hnm hN
   go_loopw [8] (fun i wr=>∃(k:Nat) (v:Value),k≤N∧i=.int .i64 k∧Hid (Box wr (w.heap.size+1+1+1) 34 #[.string nm,.int .i64 0,.int .i64 0,.int .i64 0,.int .i64 0,v])∧Hid (wr.ownsRow A4.heap.size 3 1 v (freeFits l k).length ((freeFits l k).map (Value.int .i64)))∧Hid (Keep [w.heap.size+1+1+1] A4 wr)) (fun i _=>N-(intOf i).toNat)
   case atStart=>exact⟨0,_,Nat.zero_le _,rfl,hX.out,World.ownsRow_nil _ _ _ _,hK.out⟩
   case round=>
    obtain⟨k,vf,hk,rfl,hXf,hO,hKf⟩:=hrel
    have HBr2:Hid (Below w.heap.size w wr):=HW.out.trans (hKf.out.below (by simp;omega) HW.out.size)
    have hNN:=HN.out
    have hN4:N≤4:=by have:=HPL.out;omega
    have b0:Box wr w.heap.size 26 #[.int .i64 b.beat,.int .i64 b.places,.slice a2 b.parts.length c2,.slice a3 b.apart.length c3,.slice a4 b.trials.length c4]:=hKf.out.box B0.out (by simp;omega)
    have p1:wr.cell? ⟨w.heap.size,1,none⟩=some (.int .i64 N):=by rw[←hNN];exact b0.cell 1 rfl
    have p2:=b0.cell 2 rfl
    have q5:=hXf.out.cell 5 rfl
    have f5:=hXf.out.warm 5
    have hln:=freeFits_len l k
    clear z1 z2 hNN
    by_cases hlt:k<N
    ·have hk2:(k:Int)<(N:Int):=by omega
     have hHas:=has_any wr _ l (k:Int) (HLP.out.later (Kp.of HBr2.out))
     by_cases hmem:(k:Int)∈l
     ·rw[decide_eq_true hmem]at hHas
      have HFF:Hid (freeFits l (k+1)=freeFits l k):=(by rw[freeFits,if_pos hmem,List.append_nil]:freeFits l (k+1)=freeFits l k)
      clear hmem
      go_wp2_with(go_at_call 20;refine hHas.mono ?_;rintro e w1 ⟨rfl,rfl⟩)
      go_round
      case rel=>exact⟨k+1,vf,by omega,by go_num,hXf.out,by rw[HFF.out];exact hO.out,hKf.out⟩
      case measure=>simp[intOf];omega
     ·rw[decide_eq_false hmem]at hHas
      have HFF:Hid (freeFits l (k+1)=freeFits l k++[(k:Int)]):=(by rw[freeFits,if_neg hmem]:freeFits l (k+1)=freeFits l k++[(k:Int)])
      clear hmem
      have hsz:=hKf.out.size
      go_wp2_with(first
       |(go_at_call 20;refine hHas.mono ?_;rintro e w1 ⟨rfl,rfl⟩)
       |(at_builtin
         refine wpList_append_own _ rfl (.tmp 46) (.tmp 48) 32 rfl A4.heap.size 3 i3 (.int .i64 0) 1 8 under32 hi3 hz30 hz31 hz32 rfl (by decide) _ _ _ rfl (hO.out.alloc _) ⟨_,0,none⟩ 1 1 [.int .i64 k] rfl rfl (one_new _ _ _) (one_int _) (by unfold maxLen;omega) (by omega) (by simp;omega) ?_
         intro v' w2 hown' hgrow _
         obtain⟨g',cap',rfl⟩:=ownsRow_succ hown'
         have HG:Hid ((w1.alloc (.cells #[.int .i64 k] 3)).grownBy w2 vf.ownBlock):=hgrow
         have HO2:Hid (w2.ownsRow A4.heap.size 3 1 (.slice (some ⟨g',0,none⟩) ((freeFits l k).length+1) cap') ((freeFits l k).length+1) ((freeFits l k).map (Value.int .i64)++[.int .i64 k])):=hown'
         have HX2:Hid (Box w2 (w.heap.size+1+1+1) 34 #[.string nm,.int .i64 0,.int .i64 0,.int .i64 0,.int .i64 0,vf]):=(hgrow.block _ (by have:=hXf.out.lt;simp;omega) (fun e=>by have:=ownsRow_lt hO.out _ e.symm;omega)).trans ((Keep.alloc [] _ _).box hXf.out (by simp))
         have g5:=HX2.out.cell 5 rfl
         have g6:=HX2.out.warm 5
         clear hown' hgrow))
      have hg1:=(ownsRow_lt HO2.out g' rfl).1
      have hkw:Keep [w.heap.size+1+1+1] A4 w2:=by
       refine⟨HG.out.os.trans hKf.out.os,HG.out.tape.trans hKf.out.tape,HG.out.output.trans hKf.out.output,Nat.le_trans hKf.out.size (Nat.le_trans (by simp) HG.out.size),fun j hj hn=>?_⟩
       have h1:=hKf.out.size
       refine(HG.out.block j (by simp;omega) fun e=>?_).trans (((Keep.alloc [] w1 _).block j (by omega) (by simp)).trans (hKf.out.block j hj hn))
       have:=(ownsRow_lt hO.out j e.symm).1
       omega
      refine⟨⟨k+1,_,by omega,by go_num,HX2.out.set 5 _,?_,hkw.trans' (Keep.set _ (by simp) _)⟩,by simp[intOf];omega⟩
      rw[HFF.out,List.length_append,List.map_append]
      refine ownsRow_on HO2.out fun j hj=>Below.heap_setCell _ _ _ _ ?_
      cases hj
      show g'≠w.heap.size+1+1+1
      omega
    ·have e:N=k:=by omega
     subst e
     clear hk hlt
     obtain⟨fa,fc,rfl⟩:=ownsRow_slice hO.out
     go_wp2_with fail
     have hpa:=HPA.out
     obtain⟨blk,off,rfl⟩:∃blk off,a2=some ⟨blk,off,none⟩:=hpa.first (by omega)
     obtain⟨fs,hF⟩:=hpa.row
     have HF:Hid (fs.length=b.parts.length∧(∀j u,(partsC b.parts fs)[j]?=some u→w.cell? ⟨blk,off+j,none⟩=some u)∧(∀u∈partsC b.parts fs,u.oneCell'=true)∧∀(j:Nat) (x:Part) (f:Value),b.parts[j]?=some x→fs[j]?=some f→IntsAt w f x.fits):=hF
     obtain⟨S,hS⟩:∃S:World→Prop,S=fun w'=>(w'.cell? ⟨w.heap.size,2,none⟩=some (.slice (some ⟨blk,off,none⟩) b.parts.length c2)∧w'.cell? ⟨w.heap.size+1+1+1,0,none⟩=some (.string nm)∧w'.cell? ⟨w.heap.size+1+1+1,1,none⟩=some (.int .i64 0)∧
      w'.cell? ⟨w.heap.size+1+1+1,2,none⟩=some (.int .i64 0)∧w'.cell? ⟨w.heap.size+1+1+1,3,none⟩=some (.int .i64 0)∧w'.cell? ⟨w.heap.size+1+1+1,4,none⟩=some (.int .i64 0)∧w'.cell? ⟨w.heap.size+1+1+1,5,none⟩=some (.slice fa (freeFits l N).length fc))∧Keep [w.heap.size+1+1] wr w'∧MidBox (w.heap.size+1+1) (.int .i64 b.beat) (.int .i64 b.places) (.slice a3 b.apart.length c3) (.slice none 0 0) w':=⟨_,rfl⟩
     have b0':=b0
     have HS1:Hid (∀w',Keep [w.heap.size+1+1] wr w'→MidBox (w.heap.size+1+1) (.int .i64 b.beat) (.int .i64 b.places) (.slice a3 b.apart.length c3) (.slice none 0 0) w'→S w'):=fun w' h hm=>by
      rw[hS]
      have h1:=h.box b0' (by simp;omega)
      have h2:=h.box hXf.out (by simp)
      exact⟨⟨h1.cell 2 rfl,h2.cell 0 rfl,h2.cell 1 rfl,h2.cell 2 rfl,h2.cell 3 rfl,h2.cell 4 rfl,h2.cell 5 rfl⟩,h,hm⟩
     have HS2:Hid (∀w',S w'→Keep [w.heap.size+1+1] wr w'∧MidBox (w.heap.size+1+1) (.int .i64 b.beat) (.int .i64 b.places) (.slice a3 b.apart.length c3) (.slice none 0 0) w'):=fun w' h=>by rw[hS]at h;exact h.2
     have HNW:Hid (∀X,Keep [w.heap.size+1+1] wr X→∀j u,(partsC b.parts fs)[j]?=some u→X.cell? ((⟨blk,off,none⟩:Addr).add j)=some u):=fun X hX j u hu=>by
      have h1:=HF.out.2.1 j u hu
      have hlt:blk<w.heap.size:=by
       unfold World.cell? at h1
       split at h1
       ·rename_i hx;exact(Array.getElem?_eq_some_iff.1 hx).1
       ·cases h1
      rw[show(⟨blk,off,none⟩:Addr).add j=⟨blk,off+j,none⟩ by unfold Addr.add;split<;>simp_all]
      refine(World.cell?_of_block (w:=w) (a:=⟨blk,off+j,none⟩) ?_).trans h1
      exact(hX.block blk (Nat.lt_of_lt_of_le hlt HBr2.out.size) (by simp;omega)).trans (HBr2.out.block blk hlt)
     have HGO:Hid (Box wr (w.heap.size+1+1) 26 #[.int .i64 b.beat,.int .i64 b.places,.slice (some ⟨blk,off,none⟩) b.parts.length c2,.slice a3 b.apart.length c3,.slice none 0 0]):=hKf.out.box BO.out (by simp)
     have HSZ:Hid (w.heap.size+1+1<wr.heap.size):=HGO.out.lt
     have HPL5:Hid (b.parts.length≤4):=HM.out.2
     have hlt2:∀X,Keep [w.heap.size+1+1] wr X→Box X (w.heap.size+1+1) 26 #[.int .i64 b.beat,.int .i64 b.places,.slice (some ⟨blk,off,none⟩) b.parts.length c2,.slice a3 b.apart.length c3,.slice none 0 0]→True:=fun _ _ _=>trivial
     clear b0' hlt2 p1 p2 q5 f5 b0
     subst hS
     go_region_held3 (fun w'=>(w'.cell? ⟨w.heap.size,2,none⟩=some (.slice (some ⟨blk,off,none⟩) b.parts.length c2)∧w'.cell? ⟨w.heap.size+1+1+1,0,none⟩=some (.string nm)∧w'.cell? ⟨w.heap.size+1+1+1,1,none⟩=some (.int .i64 0)∧
      w'.cell? ⟨w.heap.size+1+1+1,2,none⟩=some (.int .i64 0)∧w'.cell? ⟨w.heap.size+1+1+1,3,none⟩=some (.int .i64 0)∧w'.cell? ⟨w.heap.size+1+1+1,4,none⟩=some (.int .i64 0)∧w'.cell? ⟨w.heap.size+1+1+1,5,none⟩=some (.slice fa (freeFits l N).length fc))∧Keep [w.heap.size+1+1] wr w'∧MidBox (w.heap.size+1+1) (.int .i64 b.beat) (.int .i64 b.places) (.slice a3 b.apart.length c3) (.slice none 0 0) w')
      (first
        |exact HS1.out _ (Keep.of (Below.drewN (Below.refl _ wr) 1)) ⟨_,HGO.out⟩
        |(have hh:=HS2.out _ (by assumption);refine HS1.out _ ?_ ?_;exact hh.1.trans (Keep.alloc [] _ _) (by simp);exact hh.2.alloc _)
        |exact HS1.out _ HK57.out ⟨_,HB57.out⟩
        |exact HS1.out _ HK54.out HM54.out
        |(have hh:=HS2.out _ (by assumption);refine HS1.out _ ?_ ?_;exact hh.1.trans' (Keep.set _ (by simp) _);exact hh.2.set _))
      (first
        |(have hh:=HS2.out _ (by assumption)
          refine step_append_own rfl (.tmp 51) (.tmp 53) 22 rfl wr.heap.size 34 i4 (.agg #[.string .empty,.int .i64 0,.int .i64 0,.int .i64 0,.int .i64 0,.slice none 0 0]) 6 72 under22 hi4 hz40 hz41 hz42 rfl (by decide) _ 0 [] rfl (own_empty (by first|exact box_push rfl (by first|rfl|simp)|exact box_push2 rfl (by first|rfl|simp)) (by first|exact Nat.le_refl _|exact Nat.le_succ _)) ⟨blk,off,none⟩ b.parts.length c2 (partsC b.parts fs) rfl (partsC_len _ _ HF.out.1) (HNW.out _ hh.1) HF.out.2.2.1 (by unfold maxLen;omega) (by omega) (by first|exact Nat.le_refl _|exact Nat.le_succ _|(simp<;>omega)) ?_
          intro v54 w54 ho54 hg54
          have HO54:Hid (w54.ownsRow wr.heap.size 34 6 v54 b.parts.length (partsC b.parts fs)):=(by simpa using ho54:w54.ownsRow wr.heap.size 34 6 v54 b.parts.length (partsC b.parts fs))
          have HK54:Hid (Keep [w.heap.size+1+1] wr w54):=Keep.grow hh.1 hg54 (fun k hk=>by cases hk;first|exact Nat.le_refl _|exact Nat.le_succ _|simp)
          have HM54:Hid (MidBox (w.heap.size+1+1) (.int .i64 b.beat) (.int .i64 b.places) (.slice a3 b.apart.length c3) (.slice none 0 0) w54):=hh.2.on (hg54.block _ hh.2.lt (own_ne (by first|exact Nat.ne_of_lt HSZ.out|exact Nat.ne_of_lt (Nat.lt_succ_of_lt HSZ.out)|(have:=HSZ.out;simp<;>omega))))
          clear ho54 hh)
        |(have hh:=HS2.out _ (by assumption)
          refine step_append_own rfl (.tmp 54) (.tmp 56) 22 rfl wr.heap.size 34 i4 (.agg #[.string .empty,.int .i64 0,.int .i64 0,.int .i64 0,.int .i64 0,.slice none 0 0]) 6 72 under22 hi4 hz40 hz41 hz42 rfl (by decide) _ b.parts.length _ rfl (by first|exact HO54.out|exact HO54.out.alloc _) ⟨_,0,none⟩ 1 1 [.string nm,.int .i64 0,.int .i64 0,.int .i64 0,.int .i64 0,.slice fa (freeFits l N).length fc] rfl rfl
           (by first
             |exact box_new (Box.new _ 34 _)
             |(refine box_new (t:=34) ((hg54.block _ ?bl ?bn).trans ?bx)
               case bx=>first|exact box_push rfl (by first|rfl|simp)|exact box_push2 rfl (by first|rfl|simp)
               case bl=>first|exact Nat.lt_succ_self _|exact Nat.lt_succ_of_lt (Nat.lt_succ_self _)|(simp<;>omega)
               case bn=>exact own_ne (by first|exact Nat.succ_ne_self _|exact(Nat.succ_ne_self _).symm|simp))) (part_one _ _ _ _ _ _ _ _) (by unfold maxLen;omega) (by omega) hh.1.size ?_
          intro v57 w57 ho57 hg57
          obtain⟨g57,k57,rfl⟩:=ownsRow_succ ho57
          have HO57:Hid (w57.ownsRow wr.heap.size 34 6 (.slice (some ⟨g57,0,none⟩) (b.parts.length+1) k57) (b.parts.length+1) (partsC b.parts fs++[.string nm,.int .i64 0,.int .i64 0,.int .i64 0,.int .i64 0,.slice fa (freeFits l N).length fc])):=ho57
          have HK57:Hid (Keep [w.heap.size+1+1] wr w57):=Keep.grow hh.1 hg57 (fun k hk=>(ownsRow_lt HO54.out k hk).1)
          obtain⟨vm,hvm⟩:MidBox (w.heap.size+1+1) (.int .i64 b.beat) (.int .i64 b.places) (.slice a3 b.apart.length c3) (.slice none 0 0) w57:=hh.2.on (hg57.block _ hh.2.lt (fun e=>by have:=HSZ.out;have:=(ownsRow_lt HO54.out _ e.symm).1;omega))
          have HB57:Hid (Box w57 (w.heap.size+1+1) 26 #[.int .i64 b.beat,.int .i64 b.places,vm,.slice a3 b.apart.length c3,.slice none 0 0]):=hvm
          have q57:=HB57.out.cell 2 rfl
          have f57:=HB57.out.warm 2
          clear ho57 hvm hh))
     all_goals
      obtain⟨wo,hwo⟩:∃W,w57.setCell ⟨w.heap.size+1+1,2,none⟩ (.slice (some ⟨g57,0,none⟩) (b.parts.length+1) k57)=W:=⟨_,rfl⟩
      have hP1:Box wo (w.heap.size+1+1) 26 #[.int .i64 b.beat,.int .i64 b.places,.slice (some ⟨g57,0,none⟩) (b.parts.length+1) k57,.slice a3 b.apart.length c3,.slice none 0 0]:=by rw[←hwo];exact HB57.out.set 2 _
      have hKo:Keep [w.heap.size+1+1] wr wo:=by rw[←hwo];exact HK57.out.trans' (Keep.set _ (by simp) _)
      have hP6:Box wo (w.heap.size+1) 26 #[.int .i64 0,.int .i64 0,.slice none 0 0,.slice none 0 0,.slice none 0 0]:=hKo.box (hKf.out.box BR.out (by simp)) (by simp)
      have hPO:wo.ownsRow wr.heap.size 34 6 (.slice (some ⟨g57,0,none⟩) (b.parts.length+1) k57) (b.parts.length+1) (partsC b.parts fs++[.string nm,.int .i64 0,.int .i64 0,.int .i64 0,.int .i64 0,.slice fa (freeFits l N).length fc]):=by
       rw[←hwo]
       refine ownsRow_on HO57.out fun j hj=>Below.heap_setCell _ _ _ _ ?_
       have h1:=(ownsRow_lt HO57.out j hj).1
       have h2:=HSZ.out
       show j≠w.heap.size+1+1
       omega
      have hPF:wo.ownsRow A4.heap.size 3 1 (.slice fa (freeFits l N).length fc) (freeFits l N).length ((freeFits l N).map (Value.int .i64)):=ownsRow_on hO.out fun j hj=>hKo.block j (ownsRow_lt hO.out j hj).2 (by have:=(ownsRow_lt hO.out j hj).1;simp;omega)
      have r0:=hP1.cell 0 rfl
      have r1:=hP1.cell 1 rfl
      have r2:=hP1.cell 2 rfl
      have r3:=hP1.cell 3 rfl
      have r4:=hP1.cell 4 rfl
      have s0:=hP6.cell 0 rfl
      have s1:=hP6.cell 1 rfl
      have s2:=hP6.cell 2 rfl
      have s3:=hP6.cell 3 rfl
      have s4:=hP6.cell 4 rfl
      have fz0:=hP6.warm 0
      have fz1:=hP6.warm 1
      have fz2:=hP6.warm 2
      have fz3:=hP6.warm 3
      have fz4:=hP6.warm 4
      have HP6:Hid (Box wo (w.heap.size+1) 26 #[.int .i64 0,.int .i64 0,.slice none 0 0,.slice none 0 0,.slice none 0 0]):=hP6
      have HKo:Hid (Keep [w.heap.size+1+1] wr wo):=hKo
      have HPO:Hid (wo.ownsRow wr.heap.size 34 6 (.slice (some ⟨g57,0,none⟩) (b.parts.length+1) k57) (b.parts.length+1) (partsC b.parts fs++[.string nm,.int .i64 0,.int .i64 0,.int .i64 0,.int .i64 0,.slice fa (freeFits l N).length fc])):=hPO
      have HPF:Hid (wo.ownsRow A4.heap.size 3 1 (.slice fa (freeFits l N).length fc) (freeFits l N).length ((freeFits l N).map (Value.int .i64))):=hPF
      rw[hwo]
      clear hwo hP1 hP6 hKo hPO hPF q57 f57
      go_wp2
      obtain⟨WF,hWF⟩:∃W,((((wo.setCell ⟨w.heap.size+1,0,none⟩ (.int .i64 b.beat)).setCell ⟨w.heap.size+1,1,none⟩ (.int .i64 b.places)).setCell ⟨w.heap.size+1,2,none⟩ (.slice (some ⟨g57,0,none⟩) (b.parts.length+1) k57)).setCell
       ⟨w.heap.size+1,3,none⟩ (.slice a3 b.apart.length c3)).setCell ⟨w.heap.size+1,4,none⟩ (.slice none 0 0)=W:=⟨_,rfl⟩
      have hBF:Box WF (w.heap.size+1) 26 #[.int .i64 b.beat,.int .i64 b.places,.slice (some ⟨g57,0,none⟩) (b.parts.length+1) k57,.slice a3 b.apart.length c3,.slice none 0 0]:=by
       rw[←hWF];exact((((HP6.out.set 0 _).set 1 _).set 2 _).set 3 _).set 4 _
      have hKF:Keep [w.heap.size+1] wo WF:=by
       rw[←hWF];exact((((Keep.set wo (by simp) _).trans' (Keep.set _ (by simp) _)).trans' (Keep.set _ (by simp) _)).trans' (Keep.set _ (by simp) _)).trans' (Keep.set _ (by simp) _)
      have hB1:Below w.heap.size w wo:=HBr2.out.trans (HKo.out.below (by simp;omega) HBr2.out.size)
      have hBW:Below w.heap.size w WF:=hB1.trans (hKF.below (by simp) hB1.size)
      have q0:=hBF.cell 0 rfl
      have q1:=hBF.cell 1 rfl
      have q2:=hBF.cell 2 rfl
      have q3:=hBF.cell 3 rfl
      have q4:=hBF.cell 4 rfl
      rw[hWF]
      have HBk:Hid (BookAt WF (.agg #[.int .i64 b.beat,.int .i64 b.places,.slice (some ⟨g57,0,none⟩) (b.parts.length+1) k57,.slice a3 b.apart.length c3,.slice none 0 0]) (freeOf b l)):=by
       refine free_book HB.out HF.out.1 HF.out.2.2.2 HN.out HNM.out (Kp.of hBW) (ownsRow_on HPO.out fun j hj=>hKF.block j (ownsRow_lt HPO.out j hj).2 ?_) (IntsAt.of_owns (ownsRow_on HPF.out fun j hj=>hKF.block j (ownsRow_lt HPF.out j hj).2 ?_))
       ·have h1:=(ownsRow_lt HPO.out j hj).1
        have h2:=HSZ.out
        simp
        omega
       ·have h1:=(ownsRow_lt HPF.out j hj).1
        simp
        omega
      have HW2:Hid (Below w.heap.size w WF):=hBW
      clear hWF hBF hKF hBW hB1
      refine bodyPost_ret (v:=.agg #[.int .i64 b.beat,.int .i64 b.places,.slice (some ⟨g57,0,none⟩) (b.parts.length+1) k57,.slice a3 b.apart.length c3,.slice none 0 0]) ?_ rfl ⟨⟨_,rfl,HBk.out⟩,HW2.out⟩
      rw[results_cell rfl]
      go_simp
end Go.Proofs.Cz
end
section
namespace Go.Proofs.Cz
open Go.RowKit
def Good (b:Book) (bit:Nat→Bool) (p n:Nat) (f:Nat→Int):Prop:=∀q,p≤q→q<p+n→bit q=true→f q∈canL b q∧(0<q→bit (q-1)=true→¬Apart b.apart (f (q-1)) (f q))
theorem fill_iff (b:Book) (bit:Nat→Bool):∀(n p:Nat) (m:Nat→Int),fill b bit n p m≠ []↔∃f,(∀q,q<p→f q=m q)∧Good b bit p n f
 |0,p,m=>by
  refine⟨fun _=>⟨m,fun _ _=>rfl,fun q h1 h2=>by omega⟩,fun _=>by simp[fill]⟩
 |n+1,p,m=>by
  rw[fill]
  by_cases hp:bit p=true
  ·rw[if_pos hp]
   constructor
   ·intro h
    obtain⟨x,hx⟩:=List.exists_mem_of_ne_nil _ h
    obtain⟨k,hk,hx⟩:=List.mem_flatMap.1 hx
    split at hx
    ·simp at hx
    ·rename_i hna
     obtain⟨f,h1,h2⟩:=(fill_iff b bit n (p+1) (upd m p k)).1 (List.ne_nil_of_mem hx)
     have hfp:f p=k:=by rw[h1 p (by omega),upd_self]
     refine⟨f,fun q hq=>by rw[h1 q (by omega),upd_other _ _ (by omega)],fun q hq1 hq2 hb=>?_⟩
     by_cases e:q=p
     ·subst e
      rw[hfp]
      refine⟨hk,fun h0 hb1 ha=>hna ⟨h0,hb1,?_⟩⟩
      rwa [h1 (q-1) (by omega),upd_other _ _ (by omega)]at ha
     ·exact h2 q (by omega) (by omega) hb
   ·rintro⟨f,h1,h2⟩
    obtain⟨hk,hna⟩:=h2 p (Nat.le_refl _) (by omega) hp
    have h3:fill b bit n (p+1) (upd m p (f p))≠ []:=(fill_iff b bit n (p+1) _).2 ⟨f,fun q hq=>by
     by_cases e:q=p
     ·subst e;rw[upd_self]
     ·rw[upd_other _ _ e,h1 q (by omega)],fun q hq1 hq2=>h2 q (by omega) (by omega)⟩
    obtain⟨x,hx⟩:=List.exists_mem_of_ne_nil _ h3
    refine List.ne_nil_of_mem (a:=x) (List.mem_flatMap.2 ⟨f p,hk,?_⟩)
    rw[if_neg]
    ·exact hx
    ·rintro⟨h0,hb1,ha⟩
     refine hna h0 hb1 ?_
     rwa [h1 (p-1) (by omega)]
  ·rw[if_neg hp]
   refine(fill_iff b bit n (p+1) m).trans ⟨?_,?_⟩
   ·rintro⟨f,h1,h2⟩
    refine⟨f,fun q hq=>h1 q (by omega),fun q hq1 hq2 hb=>?_⟩
    by_cases e:q=p
    ·subst e;exact absurd hb hp
    ·exact h2 q (by omega) (by omega) hb
   ·rintro⟨f,h1,h2⟩
    refine⟨upd f p (m p),fun q hq=>?_,fun q hq1 hq2 hb=>?_⟩
    ·by_cases e:q=p
     ·subst e;rw[upd_self]
     ·rw[upd_other _ _ e,h1 q (by omega)]
    ·obtain⟨h3,h4⟩:=h2 q (by omega) (by omega) hb
     rw[upd_other _ _ (by omega:q≠p)]
     refine⟨h3,fun h0 hb1=>?_⟩
     by_cases e:q-1=p
     ·rw[e]at hb1;exact absurd hb1 hp
     ·rw[upd_other _ _ e]
      exact h4 h0 hb1
theorem mem_bitsTo (m:Nat):∀(k q:Nat),((q:Int)∈bitsTo m k)↔q<k∧m.testBit q=true
 |0,q=>by simp[bitsTo]
 |k+1,q=>by
  rw[bitsTo,List.mem_append,mem_bitsTo m k q]
  constructor
  ·rintro(h|h)
   ·exact⟨by omega,h.2⟩
   ·split at h
    ·rename_i hb
     simp at h
     have:q=k:=by omega
     subst this
     exact⟨by omega,hb⟩
    ·simp at h
  ·rintro⟨h1,h2⟩
   by_cases e:q=k
   ·subst e
    right
    rw[if_pos h2]
    simp
   ·exact .inl ⟨by omega,h2⟩
theorem mem_freeFits (l:List Int):∀(k q:Nat),((q:Int)∈freeFits l k)↔q<k∧(q:Int)∉l
 |0,q=>by simp[freeFits]
 |k+1,q=>by
  rw[freeFits,List.mem_append,mem_freeFits l k q]
  constructor
  ·rintro(h|h)
   ·exact⟨by omega,h.2⟩
   ·split at h
    ·simp at h
    ·rename_i hb
     simp at h
     have:q=k:=by omega
     subst this
     exact⟨by omega,hb⟩
  ·rintro⟨h1,h2⟩
   by_cases e:q=k
   ·subst e
    right
    rw[if_neg h2]
    simp
   ·exact .inl ⟨by omega,h2⟩
theorem mem_canL {b:Book} {p k:Int}:k∈canL b p↔∃i:Nat,i<b.parts.length∧k=i∧∃x,b.parts[i]?=some x∧p∈x.fits:=mem_canTo
theorem mem_canL_free {b:Book} {l:List Int} {q:Nat} {k:Int} (hq:q<b.places.toNat):k∈canL (freeOf b l) q↔k∈canL b q∨k=b.parts.length∧(q:Int)∉l:=by
 rw[mem_canL,mem_canL]
 have hlen:(freeOf b l).parts.length=b.parts.length+1:=by simp[freeOf]
 have hgt:∀i,i<b.parts.length→(freeOf b l).parts[i]?=b.parts[i]?:=fun i hi=>List.getElem?_append_left hi
 have hge:(freeOf b l).parts[b.parts.length]?=some (freePart b l):=by
  show(b.parts++[freePart b l])[b.parts.length]?=_
  rw[List.getElem?_append_right (Nat.le_refl _),Nat.sub_self]
  rfl
 constructor
 ·rintro⟨i,hi,rfl,x,hx,hm⟩
  rw[hlen]at hi
  by_cases e:i=b.parts.length
  ·subst e
   rw[hge]at hx
   cases hx
   exact .inr ⟨rfl,((mem_freeFits l _ q).1 hm).2⟩
  ·rw[hgt i (by omega)]at hx
   exact .inl ⟨i,by omega,rfl,x,hx,hm⟩
 ·rintro(⟨i,hi,rfl,x,hx,hm⟩|⟨rfl,hm⟩)
  ·exact⟨i,by omega,rfl,x,by rw[hgt i hi];exact hx,hm⟩
  ·exact⟨_,by omega,rfl,_,hge,(mem_freeFits l _ q).2 ⟨hq,hm⟩⟩
theorem not_apart_free {b:Book} (hp:PairsOk b) {p q:Int} (h:p=b.parts.length∨q=b.parts.length):¬Apart b.apart p q:=by
 rintro⟨x,hx,hi⟩
 obtain⟨j,hj,rfl⟩:=List.getElem_of_mem hx
 have h1:=(hp.all j _ hj (List.getElem?_eq_getElem hj)).1
 have h2:=h1.one
 have h3:=h1.two
 unfold IsPair at hi
 rcases hi with⟨h4,h5⟩|⟨h4,h5⟩<;>omega
theorem low_bits {n q:Nat} (h:q<n):(2^n-1).testBit q=true:=by rw[Nat.testBit_two_pow_sub_one];simpa using h
theorem free_machines {b:Book} (hp:PairsOk b) (hpl:b.places.toNat≤4) (m:Nat):machinesOf (freeOf b (bitsTo m 4))=[]↔emptyOf b m=true:=by
 unfold emptyOf
 rw[decide_eq_true_iff]
 have hpq:(freeOf b (bitsTo m 4)).places=b.places:=rfl
 have hap:(freeOf b (bitsTo m 4)).apart=b.apart:=rfl
 have key:machinesOf (freeOf b (bitsTo m 4))≠ []↔fillOf b m≠ []:=by
  unfold machinesOf fillOf
  rw[fill_iff,fill_iff,hpq]
  unfold Good
  rw[hap]
  constructor
  ·rintro⟨f,_,h⟩
   refine⟨f,fun q hq=>by omega,fun q h1 h2 hb=>?_⟩
   obtain⟨h3,h4⟩:=h q h1 h2 (low_bits (by omega))
   refine⟨?_,fun h0 hb1=>h4 h0 (low_bits (by omega))⟩
   rcases(mem_canL_free (by omega)).1 h3 with h5|⟨_,h5⟩
   ·exact h5
   ·exact absurd ((mem_bitsTo m 4 q).2 ⟨by omega,hb⟩) h5
  ·rintro⟨f,_,h⟩
   refine⟨fun q=>if m.testBit q=true then f q else if q<b.places.toNat then(b.parts.length:Int)else 0,fun q hq=>by omega,fun q h1 h2 _=>?_⟩
   have hq:q<b.places.toNat:=by omega
   by_cases hb:m.testBit q=true
   ·obtain⟨h3,h4⟩:=h q h1 h2 hb
    simp only[if_pos hb]
    refine⟨(mem_canL_free hq).2 (.inl h3),fun h0 _=>?_⟩
    by_cases hb1:m.testBit (q-1)=true
    ·simp only[if_pos hb1]
     exact h4 h0 hb1
    ·simp only[if_neg hb1]
     rw[if_pos (by omega)]
     exact not_apart_free hp (.inl rfl)
   ·simp only[if_neg hb,if_pos hq]
    exact⟨(mem_canL_free hq).2 (.inr ⟨rfl,fun hm=>hb ((mem_bitsTo m 4 q).1 hm).2⟩),fun _ _=>not_apart_free hp (.inr rfl)⟩
 constructor
 ·intro h
  exact Classical.byContradiction fun hn=>(key.2 hn) h
 ·intro h
  exact Classical.byContradiction fun hn=>(key.1 hn) h
end Go.Proofs.Cz
end
section
namespace Go.Proofs.Cz
open Go.RowKit
theorem nameOk_of {s:ByteArray} (h:1≤s.size∧s.size≤10∧∀j:Fin s.size,(97≤(s[j.1].toNat:Int)∧(s[j.1].toNat:Int)≤122)∨0<j.1∧(48≤(s[j.1].toNat:Int)∧(s[j.1].toNat:Int)≤57)):NameOk s:=
 ⟨h.1,h.2.1,fun j hj _=>h.2.2 ⟨j,hj⟩⟩
theorem nameTo_ok (l:List Part):∀k,k≤4→NameOk (nameTo l k)
 |0,_=>nameOk_of (s:=freeB) (by decide+kernel)
 |k+1,h=>by
  rw[nameTo]
  cases l[k]? with
  |none=>exact nameTo_ok l k (by omega)
  |some x=>
   simp only
   split
   ·have h1:k=0∨k=1∨k=2∨k=3:=by omega
    rcases h1 with rfl|rfl|rfl|rfl
    ·exact nameOk_of (by decide+kernel)
    ·exact nameOk_of (by decide+kernel)
    ·exact nameOk_of (by decide+kernel)
    ·exact nameOk_of (by decide+kernel)
   ·exact nameTo_ok l k (by omega)
theorem freeFits_in (l:List Int):∀k x,x∈freeFits l k→0≤x∧x<k
 |0,x,h=>by simp[freeFits]at h
 |k+1,x,h=>by
  rw[freeFits,List.mem_append]at h
  rcases h with h|h
  ·have:=freeFits_in l k x h
   omega
  ·split at h
   ·simp at h
   ·simp at h
    omega
theorem freeFits_up (l:List Int):∀k,(freeFits l k).Pairwise (·<·)
 |0=>by simp[freeFits]
 |k+1=>by
  rw[freeFits,List.pairwise_append]
  refine⟨freeFits_up l k,by split<;>simp,fun x hx y hy=>?_⟩
  have:=freeFits_in l k x hx
  split at hy
  ·simp at hy
  ·simp at hy
   omega
def Apart0 (b:Book):Prop:=∀(i:Nat) (x:Part),b.parts[i]?=some x→x.name≠nameTo b.parts b.parts.length
theorem free_valid {b:Book} (hv:Valid b) (hm:b.parts.length≤4) (hn:Apart0 b) (l:List Int):Valid (freeOf b l):=by
 have hlen:(freeOf b l).parts.length=b.parts.length+1:=by simp[freeOf]
 have hlast:∀j y,(freeOf b l).parts[j]?=some y→(j<b.parts.length∧b.parts[j]?=some y)∨(j=b.parts.length∧y=freePart b l):=fun j y hy=>by
  change(b.parts++[freePart b l])[j]?=some y at hy
  by_cases h:j<b.parts.length
  ·rw[List.getElem?_append_left h]at hy
   exact .inl ⟨h,hy⟩
  ·have h1:=(List.getElem?_eq_some_iff.1 hy).1
   simp at h1
   have e:j=b.parts.length:=by omega
   subst e
   rw[List.getElem?_append_right (Nat.le_refl _),Nat.sub_self]at hy
   exact .inr ⟨rfl,by simpa using hy.symm⟩
 have hpl:=hv.places
 have hpo:=hv.parts.many
 refine⟨hv.beat,hv.places,⟨by rw[hlen];omega,?_⟩,⟨hv.pairs.many,?_⟩,Nat.zero_le _,TrialsTo.zero _⟩
 ·intro j y hj hy
  rcases hlast j y hy with⟨h1,h2⟩|⟨rfl,rfl⟩
  ·have h:=hv.parts.all j y h1 h2
   refine⟨h.1,fun i z hi hz=>?_⟩
   rcases hlast i z hz with⟨_,h4⟩|⟨h3,_⟩
   ·exact h.2 i z hi h4
   ·omega
  ·refine⟨⟨nameTo_ok _ _ hm,by simp[freePart],by simp[freePart],by simp[freePart],by simp[freePart],?_⟩,fun i z hi hz=>?_⟩
   ·rw[rising_iff]
    refine⟨fun y hy=>?_,freeFits_up l _⟩
    have:=freeFits_in l _ y hy
    show 0≤y∧y≤b.places-1
    omega
   ·rcases hlast i z hz with⟨_,h4⟩|⟨h3,_⟩
    ·exact hn i z h4
    ·omega
 ·intro j x hj hx
  have h:=hv.pairs.all j x hj hx
  refine⟨⟨?_,?_,h.1.le⟩,h.2⟩
  ·have:=h.1.one
   rw[hlen]
   omega
  ·have:=h.1.two
   rw[hlen]
   omega
theorem drop_bits:∀(m:Fin 16) (i:Fin 4),i.1<(bitsTo m.1 4).length→∃m':Fin 16,(bitsTo m.1 4).eraseIdx i.1=bitsTo m'.1 4∧m'.1<m.1∧smallerM m'.1 m.1=true:=by decide+kernel
end Go.Proofs.Cz
end
