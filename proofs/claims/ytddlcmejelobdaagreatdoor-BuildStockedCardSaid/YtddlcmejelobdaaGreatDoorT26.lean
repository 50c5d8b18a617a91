/- A part. Conditions: none. -/
import Derived.Test.YtddlcmejelobdaaGreatDoorT25
import Derived.OwnWalk
set_option linter.all false
set_option maxHeartbeats 8000000
set_option maxRecDepth 100000
namespace Go.Proofs.Cz
open Go.RowKit
variable {B k:Nat} {e:TypeId} {l:List Part} {p:Int} {v:Value} {w:World} {x:Part}
def cO (p:Int) (l:List Part):Nat->List Int
 |0=>[]
 |k+1=>cO p l k++(match l[k]? with|some x=>if p∈x.fits then [(k:Int)]else []|none=>[])
abbrev cR (b:ai) (p:Int):List Int:=cO p b.parts b.parts.length
theorem ip (p:Int) (l:List Part):∀k,(cO p l k).length<=k
 |0=>Nat.le_refl _
 |k+1=>by
  have:=ip p l k;unfold cO;rw[List.length_append]
  have:(match l[k]? with|some x=>if p∈x.fits then [(k:Int)]else []|none=>[]).length<=1:=by
   split
   .split<;>simp
   .simp
  omega
theorem uT (hx:l[k]?=some x) (h:p∈x.fits):cO p l (k+1)=cO p l k++[(k:Int)]:=by
 rw[cO,hx];simp[h]
theorem zE (hx:l[k]?=some x) (h:¬p∈x.fits):cO p l (k+1)=cO p l k:=by
 rw[cO,hx];simp[h]
theorem pU:(ZP.info? 3).map (fun i=>(i.zero,i.size,i.bytes))=some (some (.int .i64 0),1,8):=by kernel_rfl
theorem lT:ZP.underlying 35=some (.slice 3):=by rw[Tz.under];exact Tryz.underlying35
theorem aC.ii {l:List Int} (h:w.ownsRow B e 1 v l.length (l.map (Value.int .i64))):aC w v l:=by
 obtain⟨_,⟨rfl,h0⟩|⟨g,cap,cur,rfl,_,hg,hle,jt,bQ,Rt⟩⟩:=h
 .have:l=[]:=List.eq_nil_of_length_eq_zero h0;subst this;exact⟨none,0,⟨rfl,Nat.le_refl _,by unfold maxLen;omega,fun _=>rfl,(fun b hb=>by cases hb)⟩,fun b hb=>by cases hb⟩
 .refine⟨_,cap,⟨rfl,hle,jt,(fun h=>by cases h),fun b hb=>Or.inr ⟨cur,e,(0,0),by cases hb;exact hg⟩⟩,fun b hb j x hj=>?_⟩;cases hb;refine⟨rfl,?_⟩;simp only[World.cell?,hg];have qN:j<l.length:=(List.getElem?_eq_some_iff.1 hj).1;have:(cur.toList.take (l.length*1))[j]?=some (.int .i64 x):=by rw[Rt];simp[hj]
  rw[Nat.mul_one,List.getElem?_take,if_pos qN]at this;simpa using this
theorem Ea (w:World) (u:Value) (t:Nat):∀j x,[u][j]?=some x->(w.alloc (.cells #[u] t)).cell? ((⟨w.heap.size,0,none⟩:Addr).add j)=some x:=fun j x h=>by
 match j,h with
 |0,h=>
  simp at h;subst h;show(w.alloc (.cells #[u] t)).cell? ⟨w.heap.size,0,none⟩=_;exact boxed (Below.refl _ _) 0
theorem Jw (w:World) (o:Obj) (u:Value) (t:Nat):∀j x,[u][j]?=some x->((w.alloc o).alloc (.cells #[u] t)).cell? ((⟨w.heap.size+1,0,none⟩:Addr).add j)=some x:=fun j x h=>by
 have:=Ea (w.alloc o) u t j x h;rwa [World.size_alloc]at this
theorem wR (x:Int):∀u∈ [Value.int .i64 x],u.oneCell'=true:=fun u h=>by simp at h;subst h;rfl
theorem qW {s:Nat} {n:Nat} {xs:List Value} (h:w.ownsRow B e s v n xs):∀k,v.ownBlock=some k->B<=k:=fun k hk=>by
 obtain⟨_,⟨rfl,_⟩|⟨g,cap,cur,rfl,xV,_⟩⟩:=h
 .cases hk
 .cases hk;exact xV
def MS (w:World) (l:List Int) (e:Ending) (w':World):Prop:=(∃v,e=.returned v/\aC w' v l)/\Below w.heap.size w w'
theorem MS.mk {w w':World} {l:List Int} {v:Value} (h:aC w' v l) (hb:Below w.heap.size w w'):MS w l (.returned v) w':=⟨⟨v,rfl,h⟩,hb⟩
def MT (w:World) (l:List Int) (e:Ending) (w':World):Prop:=(∃v,e=.returned v/\w'.ownsRow (w.heap.size+1) 3 1 v l.length (l.map (Value.int .i64)))/\Below w.heap.size w w'
theorem MT.mk {w w':World} {l:List Int} {v:Value} (h:w'.ownsRow (w.heap.size+1) 3 1 v l.length (l.map (Value.int .i64))) (hb:Below w.heap.size w w'):MT w l (.returned v) w':=⟨⟨v,rfl,h⟩,hb⟩
theorem MU (w:World) (v:Value) (b:ai) (p:Int) (hb:au w v b) (hm:b.parts.length<=5):Calls ZP 141 #[v,.int .i64 p] w (MT w (cR b p)):=by
 obtain⟨v2,v3,v4,rfl,⟨a2,c2,h2,f2⟩,⟨a3,c3,⟨rfl,_,_,_,_⟩,_⟩,⟨a4,c4,⟨rfl,_,_,_,_⟩,_⟩⟩:=hb;have H2:Hid (bS w v2 b.parts.length a2 c2/\_):=⟨h2,f2⟩
 obtain⟨rfl,l2,m2,n2,r2⟩:=h2;unfold maxLen at m2;clear r2 f2 n2;obtain⟨i0,hi,tn,mU,pS⟩:=info_parts pU;go_enter ZF141,Tryz.ntmps141
 go_wp2
 go_loopw [12,5,6,7] (fun i v u q wr=>∃k:Nat,k<=b.parts.length/\i=.int .i64 k/\Hid (wr.ownsRow (w.heap.size+1) 3 1 v (cO p b.parts k).length ((cO p b.parts k).map (Value.int .i64)))/\Hid (Below (w.heap.size+1) (w.alloc (.cells #[.int .i64 b.ao,.int .i64 b.places,.slice a2 b.parts.length c2,.slice a3 b.apart.length c3,.slice a4 b.ab.length c4] 78)) wr)) (fun i _ _ _ _=>b.parts.length-(intOf i).toNat)
 case atStart=>exact⟨0,Nat.zero_le _,rfl,World.ownsRow_nil _ _ _ _,Below.refl _ _⟩
 case round=>
  obtain⟨k,hk,rfl,hO,hB⟩:=hrel;by_cases ar:k<b.parts.length
  .obtain⟨⟨blk,off,sp⟩,x,rfl,hx,x0,x1,x2,x3,x4,vf,x5,x6⟩:=H2.o.1.elem H2.o.2 ar;obtain rfl:sp=none:=x0.1;have x7:=x6.later (Kp.boxed hB.o);obtain⟨af,cf,hf,_⟩:=x6;obtain⟨rfl,lf,mf,_,_⟩:=hf;have y0:=(x0.later (Kp.boxed hB.o)).2;have y1:=(x1.later (Kp.boxed hB.o)).2;have y2:=(x2.later (Kp.boxed hB.o)).2;have y3:=(x3.later (Kp.boxed hB.o)).2;have y4:=(x4.later (Kp.boxed hB.o)).2;have y5:=(x5.later (Kp.boxed hB.o)).2;simp only[<-Nat.add_assoc]at y0 y1 y2 y3 y4 y5;have hz:Hid (w.heap.size+1<=wr.heap.size):=by have:=hB.o.size;simp at this;exact(by omega:w.heap.size+1<=wr.heap.size)
   have mO:(k:Int)<(b.parts.length:Int):=by omega
   have HX:=hid hx;have x8:=x7.later (Kp.alloc wr (.cells #[.string x.name,.int .i64 x.cost,.int .i64 x.bL,.int .i64 x.lo,.int .i64 x.hi,.slice af x.fits.length cf] 37));clear x0 x1 x2 x3 x4 x5 x7 hx lf mf;have hlen:=ip p b.parts k;have bQ:=hz.o;have HO:=hO
   go_wp2_with(first
    |(go_at_call 76;refine(j7 _ _ _ p x8).mono ?_;rintro e w' ⟨r,rfl,hr,rfl⟩;cases r)
    |(at_builtin;refine wpList_append_own _ rfl (.tmp 21) (.tmp 23) 35 rfl (w.heap.size+1) 3 i0 (.int .i64 0) 1 8 lT hi tn mU pS rfl (by decide) _ _ _ rfl ((HO.o.alloc _).alloc _) ⟨_,0,none⟩ 1 1 [.int .i64 k] rfl rfl (Jw _ _ _ _) (wR _) (by unfold maxLen;omega) (by omega) (by simp;omega) ?_;intro v' w1 dk fy _))
   .go_round
    case rel=>
     rw[<-zE HX.o hr.f]at HO;exact⟨k+1,by omega,by go_num,HO.o.alloc _,(Below.alloc hB.o hz.o _:Below _ _ _)⟩
    case measure=>simp[intOf];omega
   .have GU:Hid (w1.ownsRow (w.heap.size+1) 3 1 v' (cO p b.parts (k+1)).length ((cO p b.parts (k+1)).map (Value.int .i64))):=(by
     rw[uT HX.o hr.t,List.length_append,List.map_append];exact dk)
    have iI:Hid (Below (w.heap.size+1) _ w1):=Below.grown (Below.alloc (Below.alloc hB.o hz.o _) (by simp;omega) _) fy (by simp;omega) (qW HO.o);clear dk fy;go_round
    case rel=>exact⟨k+1,by omega,by go_num,GU,iI⟩
    case measure=>simp[intOf];omega
  .have e:k=b.parts.length:=by omega
   subst e;go_wp2
   go_ret;exact MT.mk hO.o (Below.boxed hB.o)
end Go.Proofs.Cz
