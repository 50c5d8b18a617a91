/- A part. Conditions: none. -/
import Derived.Test.YthmokljbbkcjdaaGreatDoorT36
import Derived.Laws.AppendOwnNone
set_option linter.all false
set_option maxHeartbeats 8000000
set_option maxRecDepth 100000
namespace Go.Proofs.Cz
open Go.RowKit
section
variable (b:aS) (p:Nat) (o:List Int)
end
theorem eq_nil (w:World):(binOp .eql 32 (.slice none 0 0) (.slice none 0 0)).run ZP w=.ok (.bool true) w:=by
 have e:∀d,(Op.equalIn (d+1) 32 (.slice none 0 0) (.slice none 0 0)).run ZP w=.ok true w:=fun d=>by
  simp only[Op.equalIn,Sem.run_bind,run_underlying mm,Result.andThen_ok];rfl
 simp only[binOp,Op.equal,Sem.run_bind,Op.maxDepth,e 9999,Result.andThen_ok];rfl
theorem Ho (w:World) (a:Addr) (n c:Nat):(binOp .eql 32 (.slice (some a) n c) (.slice none 0 0)).run ZP w=.ok (.bool false) w:=by
 have e:∀d,(Op.equalIn (d+1) 32 (.slice (some a) n c) (.slice none 0 0)).run ZP w=.ok false w:=fun d=>by
  simp only[Op.equalIn,Sem.run_bind,run_underlying mm,Result.andThen_ok];rfl
 simp only[binOp,Op.equal,Sem.run_bind,Op.maxDepth,e 9999,Result.andThen_ok];rfl
def Vb (w:World) (l:List Int) (e:Ending) (w':World):Prop:=(∃v,e=.returned v/\w'.ownsRow w.heap.size 3 1 v l.length (l.map (Value.int .i64)))/\Below w.heap.size w w'
theorem rA (w:World) (v:Value) (l:List Int) (hl:l.length<=1000) (h:ao w v l):Calls ZP 108 #[v] w (Vb w l):=by
 obtain⟨oa,c,hS,hE⟩:=h;have H:Hid (bS w v l.length oa c/\∀b,oa=some b->∀j x,l[j]?=some x->At w b j (.int .i64 x)):=⟨hS,hE⟩
 obtain⟨rfl,l1,m1,n1,r1⟩:=hS;unfold maxLen at m1;clear hE r1;cases oa with
 |none=>
  have L1:=n1 rfl;subst L1;have L3:l=[]:=List.eq_nil_of_length_eq_zero (by omega);subst L3;clear n1;have hE:=eq_nil;simp only[List.length_nil];go_enter ZF108,Tryz.ntmps108
  go_wp2
  go_ret;exact⟨⟨_,rfl,World.ownsRow_nil _ _ _ _⟩,Below.refl _ _⟩
 |some ad=>
  obtain⟨i0,hi,sZ,mS,rc⟩:=info_parts vE;obtain⟨blk,off,sp⟩:=ad;clear n1
  have PN:Hid (∀X,Below w.heap.size w X->∀j u,(l.map (Value.int .i64))[j]?=some u->X.cell? ((⟨blk,off,sp⟩:Addr).add j)=some u):=fun X hX j u hu=>by
   rw[List.getElem?_map]at hu;obtain⟨y,hy,rfl⟩:=Option.map_eq_some_iff.1 hu;have h3:=(H.o.2 _ rfl j y hy).later (Kp.of hX);obtain rfl:sp=none:=h3.1;rw[show(⟨blk,off,none⟩:Addr).add j=⟨blk,off+j,none⟩ by unfold Addr.add;split<;>simp_all];exact h3.2
  have hE:=Ho;go_enter ZF108,Tryz.ntmps108
  go_wp2_with
   (at_builtin
    refine wpList_append_own _ rfl (.tmp 5) (.tmp 6) 32 rfl w.heap.size 3 i0 (.int .i64 0) 1 8 mm hi sZ mS rc rfl (by decide) _ 0 [] rfl (World.ownsRow_made w #[] 0 (Nat.le_refl _) (by unfold maxLen;omega) rfl) ⟨blk,off,sp⟩ l.length c (l.map (Value.int .i64)) rfl (by simp) (PN.o _ ((Below.refl _ w).alloc (Nat.le_refl _) _)) (fun u hu=>by obtain⟨y,_,rfl⟩:=List.mem_map.1 hu;rfl) (by unfold maxLen;omega) (by omega) (by simp) ?_;intro v' w1 dp eA _;have HO:Hid (w1.ownsRow w.heap.size 3 1 v' l.length (l.map (Value.int .i64))):=(by simpa using dp:w1.ownsRow w.heap.size 3 1 v' l.length (l.map (Value.int .i64)))
    have HB:Hid (Below w.heap.size w w1):=Below.grown ((Below.refl _ w).alloc (Nat.le_refl _) _) eA (by simp) (fun k hk=>by cases hk;exact Nat.le_refl _);clear dp eA)
  go_ret;exact⟨⟨_,rfl,HO.o⟩,HB.o⟩
end Go.Proofs.Cz
