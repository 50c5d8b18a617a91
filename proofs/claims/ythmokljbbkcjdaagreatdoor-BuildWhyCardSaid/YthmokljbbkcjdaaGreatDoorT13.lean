/- A part of the proof that BuildWhy returns true. Conditions: none. -/
import Derived.Test.YthmokljbbkcjdaaGreatDoorT12
import Derived.OwnWalk
set_option linter.unusedVariables false
set_option linter.unusedSimpArgs false
section
namespace Go.Proofs.Cz
open Go.RowKit
def canTo (p:Int) (l:List Part):Nat→List Int
 |0=>[]
 |k+1=>canTo p l k++(match l[k]? with|some x=>if p∈x.fits then [(k:Int)]else []|none=>[])
abbrev canL (b:Book) (p:Int):List Int:=canTo p b.parts b.parts.length
theorem canTo_len (p:Int) (l:List Part):∀k,(canTo p l k).length≤k
 |0=>Nat.le_refl _
 |k+1=>by
  have:=canTo_len p l k
  unfold canTo
  rw[List.length_append]
  have:(match l[k]? with|some x=>if p∈x.fits then [(k:Int)]else []|none=>[]).length≤1:=by
   split
   ·split<;>simp
   ·simp
  omega
theorem canTo_yes {p:Int} {l:List Part} {k:Nat} {x:Part} (hx:l[k]?=some x) (h:p∈x.fits):canTo p l (k+1)=canTo p l k++[(k:Int)]:=by
 rw[canTo,hx];simp[h]
theorem canTo_no {p:Int} {l:List Part} {k:Nat} {x:Part} (hx:l[k]?=some x) (h:¬p∈x.fits):canTo p l (k+1)=canTo p l k:=by
 rw[canTo,hx];simp[h]
theorem info3:(Tz.prog.info? 3).map (fun i=>(i.zero,i.size,i.bytes))=some (some (.int .i64 0),1,8):=by kernel_rfl
theorem under32:Tz.prog.underlying 32=some (.slice 3):=by rw[Tz.under];exact Tryz.underlying32
theorem IntsAt.of_owns {w:World} {B:Nat} {e:TypeId} {v:Value} {l:List Int} (h:w.ownsRow B e 1 v l.length (l.map (Value.int .i64))):IntsAt w v l:=by
 obtain⟨_,⟨rfl,h0⟩|⟨g,cap,cur,rfl,_,hg,hle,hcap,hsz,htk⟩⟩:=h
 ·have:l=[]:=List.eq_nil_of_length_eq_zero h0
  subst this
  exact⟨none,0,⟨rfl,Nat.le_refl _,by unfold maxLen;omega,fun _=>rfl,(fun b hb=>by cases hb)⟩,fun b hb=>by cases hb⟩
 ·refine⟨_,cap,⟨rfl,hle,hcap,(fun h=>by cases h),fun b hb=>Or.inr ⟨cur,e,(0,0),by cases hb;exact hg⟩⟩,fun b hb j x hj=>?_⟩
  cases hb
  refine⟨rfl,?_⟩
  simp only[World.cell?,hg]
  have hj2:j<l.length:=(List.getElem?_eq_some_iff.1 hj).1
  have:(cur.toList.take (l.length*1))[j]?=some (.int .i64 x):=by rw[htk];simp[hj]
  rw[Nat.mul_one,List.getElem?_take,if_pos hj2]at this
  simpa using this
theorem one_new (w:World) (u:Value) (t:Nat):∀j x,[u][j]?=some x→(w.alloc (.cells #[u] t)).cell? ((⟨w.heap.size,0,none⟩:Addr).add j)=some x:=fun j x h=>by
 match j,h with
 |0,h=>
  simp at h
  subst h
  show(w.alloc (.cells #[u] t)).cell? ⟨w.heap.size,0,none⟩=_
  exact boxed (Below.refl _ _) 0
theorem one_new2 (w:World) (o:Obj) (u:Value) (t:Nat):∀j x,[u][j]?=some x→((w.alloc o).alloc (.cells #[u] t)).cell? ((⟨w.heap.size+1,0,none⟩:Addr).add j)=some x:=fun j x h=>by
 have:=one_new (w.alloc o) u t j x h
 rwa [World.size_alloc]at this
theorem one_int (x:Int):∀u∈ [Value.int .i64 x],u.oneCell'=true:=fun u h=>by simp at h;subst h;rfl
theorem owns_ge {w:World} {B:Nat} {e:TypeId} {s:Nat} {v:Value} {n:Nat} {xs:List Value} (h:w.ownsRow B e s v n xs):∀k,v.ownBlock=some k→B≤k:=fun k hk=>by
 obtain⟨_,⟨rfl,_⟩|⟨g,cap,cur,rfl,hge,_⟩⟩:=h
 ·cases hk
 ·cases hk;exact hge
def RetL (w:World) (l:List Int) (e:Ending) (w':World):Prop:=(∃v,e=.returned v∧IntsAt w' v l)∧Below w.heap.size w w'
theorem RetL.mk {w w':World} {l:List Int} {v:Value} (h:IntsAt w' v l) (hb:Below w.heap.size w w'):RetL w l (.returned v) w':=⟨⟨v,rfl,h⟩,hb⟩
def RetO (w:World) (l:List Int) (e:Ending) (w':World):Prop:=(∃v,e=.returned v∧w'.ownsRow (w.heap.size+1) 3 1 v l.length (l.map (Value.int .i64)))∧Below w.heap.size w w'
theorem RetO.mk {w w':World} {l:List Int} {v:Value} (h:w'.ownsRow (w.heap.size+1) 3 1 v l.length (l.map (Value.int .i64))) (hb:Below w.heap.size w w'):RetO w l (.returned v) w':=⟨⟨v,rfl,h⟩,hb⟩
set_option maxHeartbeats 4000000 in
set_option maxRecDepth 20000 in
theorem can_own (w:World) (v:Value) (b:Book) (p:Int) (hb:BookAt w v b) (hm:b.parts.length≤5):Calls Tz.prog 76 #[v,.int .i64 p] w (RetO w (canL b p)):=by
 obtain⟨v2,v3,v4,rfl,⟨a2,c2,h2,f2⟩,⟨a3,c3,⟨rfl,_,_,_,_⟩,_⟩,⟨a4,c4,⟨rfl,_,_,_,_⟩,_⟩⟩:=hb
 have H2:Hid (SlAt w v2 b.parts.length a2 c2∧_):=⟨h2,f2⟩
 obtain⟨rfl,l2,m2,n2,r2⟩:=h2
 unfold maxLen at m2
 clear r2 f2 n2
 obtain⟨i0,hi,hz0,hz1,hz2⟩:=info_parts info3
 go_enter Tz.func76,Tz.ntmps76
 go_wp2
 go_loopw [12,5,6,7] (fun i v u q wr=>∃k:Nat,k≤b.parts.length∧i=.int .i64 k∧Hid (wr.ownsRow (w.heap.size+1) 3 1 v (canTo p b.parts k).length ((canTo p b.parts k).map (Value.int .i64)))∧Hid (Below (w.heap.size+1) (w.alloc (.cells #[.int .i64 b.beat,.int .i64 b.places,.slice a2 b.parts.length c2,.slice a3 b.apart.length c3,.slice a4 b.trials.length c4] 79)) wr)) (fun i _ _ _ _=>b.parts.length-(intOf i).toNat)
 case atStart=>exact⟨0,Nat.zero_le _,rfl,World.ownsRow_nil _ _ _ _,Below.refl _ _⟩
 case round=>
  obtain⟨k,hk,rfl,hO,hB⟩:=hrel
  by_cases hlt:k<b.parts.length
  ·obtain⟨⟨blk,off,sp⟩,x,rfl,hx,x0,x1,x2,x3,x4,vf,x5,x6⟩:=H2.out.1.elem H2.out.2 hlt
   obtain rfl:sp=none:=x0.1
   have x7:=x6.later (Kp.boxed hB.out)
   obtain⟨af,cf,hf,_⟩:=x6
   obtain⟨rfl,lf,mf,_,_⟩:=hf
   have y0:=(x0.later (Kp.boxed hB.out)).2
   have y1:=(x1.later (Kp.boxed hB.out)).2
   have y2:=(x2.later (Kp.boxed hB.out)).2
   have y3:=(x3.later (Kp.boxed hB.out)).2
   have y4:=(x4.later (Kp.boxed hB.out)).2
   have y5:=(x5.later (Kp.boxed hB.out)).2
   simp only[←Nat.add_assoc]at y0 y1 y2 y3 y4 y5
   have hz:Hid (w.heap.size+1≤wr.heap.size):=by have:=hB.out.size;simp at this;exact(by omega:w.heap.size+1≤wr.heap.size)
   have hk2:(k:Int)<(b.parts.length:Int):=by omega
   have HX:Hid (b.parts[k]?=some x):=hx
   have x8:=x7.later (Kp.alloc wr (.cells #[.string x.name,.int .i64 x.cost,.int .i64 x.stock,.int .i64 x.lo,.int .i64 x.hi,.slice af x.fits.length cf] 34))
   clear x0 x1 x2 x3 x4 x5 x7 hx lf mf
   have hlen:=canTo_len p b.parts k
   have hsz:=hz.out
   have HO:=hO
   go_wp2_with(first
    |(go_at_call 54;refine(contains_any _ _ _ p x8).mono ?_;rintro e w' ⟨r,rfl,hr,rfl⟩;cases r)
    |(at_builtin;refine wpList_append_own _ rfl (.tmp 21) (.tmp 23) 32 rfl (w.heap.size+1) 3 i0 (.int .i64 0) 1 8 under32 hi hz0 hz1 hz2 rfl (by decide) _ _ _ rfl ((HO.out.alloc _).alloc _) ⟨_,0,none⟩ 1 1 [.int .i64 k] rfl rfl (one_new2 _ _ _ _) (one_int _) (by unfold maxLen;omega) (by omega) (by simp;omega) ?_;intro v' w1 hown' hgrow _))
   ·go_round
    case rel=>
     rw[←canTo_no HX.out hr.f]at HO
     exact⟨k+1,by omega,by go_num,HO.out.alloc _,(Below.alloc hB.out hz.out _:Below _ _ _)⟩
    case measure=>simp[intOf];omega
   ·have HO2:Hid (w1.ownsRow (w.heap.size+1) 3 1 v' (canTo p b.parts (k+1)).length ((canTo p b.parts (k+1)).map (Value.int .i64))):=(by
     rw[canTo_yes HX.out hr.t,List.length_append,List.map_append];exact hown')
    have HB2:Hid (Below (w.heap.size+1) _ w1):=Below.grown (Below.alloc (Below.alloc hB.out hz.out _) (by simp;omega) _) hgrow (by simp;omega) (owns_ge HO.out)
    clear hown' hgrow
    go_round
    case rel=>exact⟨k+1,by omega,by go_num,HO2,HB2⟩
    case measure=>simp[intOf];omega
  ·have e:k=b.parts.length:=by omega
   subst e
   go_wp2
   go_ret
   exact RetO.mk hO.out (Below.boxed hB.out)
end Go.Proofs.Cz
end
section
namespace Go.Proofs.Cz
open Go.RowKit
end Go.Proofs.Cz
end
