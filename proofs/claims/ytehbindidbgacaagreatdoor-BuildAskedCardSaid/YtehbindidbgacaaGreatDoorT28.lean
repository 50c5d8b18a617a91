/- A part. Conditions: none. -/
import Derived.Test.YtehbindidbgacaaGreatDoorT27
import Derived.OwnWalk
set_option linter.all false
namespace Go.Proofs.Cz
open Go.RowKit
variable {B:Nat} {e:TypeId} {v:Value} {w:World}
def HH (p:Int) (l:List Part):Nat->List Int
 |0=>[]
 |k+1=>HH p l k++(match l[k]? with|some x=>if p∈x.fits then [(k:Int)]else []|none=>[])
abbrev SI (b:aW) (p:Int):List Int:=HH p b.parts b.parts.length
theorem yO:(ZP.info? 3).map (fun i=>(i.zero,i.size,i.bytes))=some (some (.int .i64 0),1,8):=by kernel_rfl
theorem yS:ZP.underlying 31=some (.slice 3):=by rw[Tz.under];exact Tryz.underlying31
theorem aP.sQ {l:List Int} (h:w.ownsRow B e 1 v l.length (l.map (Value.int .i64))):aP w v l:=by
 obtain⟨_,⟨rfl,h0⟩|⟨g,cap,cur,rfl,_,hg,hle,ku,cb,Lg⟩⟩:=h
 .have:l=[]:=List.eq_nil_of_length_eq_zero h0;subst this;exact⟨none,0,⟨rfl,Nat.le_refl _,by unfold maxLen;omega,fun _=>rfl,(fun b hb=>by cases hb)⟩,fun b hb=>by cases hb⟩
 .refine⟨_,cap,⟨rfl,hle,ku,(fun h=>by cases h),fun b hb=>Or.inr ⟨cur,e,(0,0),by cases hb;exact hg⟩⟩,fun b hb j x hj=>?_⟩;cases hb;refine⟨rfl,?_⟩;simp only[World.cell?,hg];have mL:j<l.length:=(List.getElem?_eq_some_iff.1 hj).1;have:(cur.toList.take (l.length*1))[j]?=some (.int .i64 x):=by rw[Lg];simp[hj]
  rw[Nat.mul_one,List.getElem?_take,if_pos mL]at this;simpa using this
theorem FO (w:World) (u:Value) (t:Nat):∀j x,[u][j]?=some x->(w.alloc (.cells #[u] t)).cell? ((⟨w.heap.size,0,none⟩:Addr).add j)=some x:=fun j x h=>by
 match j,h with
 |0,h=>
  simp at h;subst h;show(w.alloc (.cells #[u] t)).cell? ⟨w.heap.size,0,none⟩=_;exact boxed (Below.refl _ _) 0
theorem FP (x:Int):∀u∈ [Value.int .i64 x],u.oneCell'=true:=fun u h=>by simp at h;subst h;rfl
theorem FQ {s:Nat} {n:Nat} {xs:List Value} (h:w.ownsRow B e s v n xs):∀k,v.ownBlock=some k->B<=k:=fun k hk=>by
 obtain⟨_,⟨rfl,_⟩|⟨g,cap,cur,rfl,tz,_⟩⟩:=h
 .cases hk
 .cases hk;exact tz
end Go.Proofs.Cz
