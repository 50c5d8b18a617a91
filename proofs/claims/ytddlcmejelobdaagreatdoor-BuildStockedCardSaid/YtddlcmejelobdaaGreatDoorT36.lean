/- A part. Conditions: none. -/
import Derived.Test.YtddlcmejelobdaaGreatDoorT35
import Derived.Laws.AppendOwnNone
set_option linter.all false
set_option maxHeartbeats 8000000
set_option maxRecDepth 100000
namespace Go.Proofs.Cz
open Go.RowKit
variable {L:List (List Int)} {fs:List Value} {v:Value} {w w':World}
theorem Gf (w:World) (v:Value) (b:ai) (p:Int) (hb:au w v b) (hm:b.parts.length<=5):Calls ZP 111 #[v,.int .i64 p] w (MS w (cR b p)):=by
 obtain⟨v2,v3,v4,rfl,⟨a2,c2,h2,f2⟩,⟨a3,c3,⟨rfl,_,_,_,_⟩,_⟩,⟨a4,c4,⟨rfl,_,_,_,_⟩,_⟩⟩:=hb;have H2:Hid (bS w v2 b.parts.length a2 c2/\_):=⟨h2,f2⟩
 obtain⟨rfl,l2,m2,n2,r2⟩:=h2;unfold maxLen at m2;clear r2 f2 n2;obtain⟨i0,hi,tn,mU,pS⟩:=info_parts pU;obtain⟨A1,bI⟩:=ex1 (w.alloc (.cells #[.int .i64 b.ao,.int .i64 b.places,.slice a2 b.parts.length c2,.slice a3 b.apart.length c3,.slice a4 b.ab.length c4] 26));have B1:=bnew bI;have HW:=wnew bI;have OX:Hid (A1.heap.size=w.heap.size+1):=(by rw[<-bI];simp:A1.heap.size=w.heap.size+1)
 obtain⟨-,-,z2⟩:=B1.o.c3;go_enter ZF111,Tryz.ntmps111
 go_wp2
 clear bI z2;go_loopw [6,5] (fun i v wr=>∃k:Nat,k<=b.parts.length/\i=.int .i64 k/\Hid (wr.ownsRow A1.heap.size 3 1 v (cO p b.parts k).length ((cO p b.parts k).map (Value.int .i64)))/\Hid (Below A1.heap.size A1 wr)) (fun i _ _=>b.parts.length-(intOf i).toNat)
 case atStart=>exact⟨0,Nat.zero_le _,rfl,World.ownsRow_nil _ _ _ _,Below.refl _ _⟩
 case round=>
  obtain⟨k,hk,rfl,hO,hB⟩:=hrel;have zZ:=HW.t hB.o;obtain⟨-,-,z2⟩:=(hidb B1 hB.o).o.c3;by_cases ar:k<b.parts.length
  .obtain⟨⟨blk,off,sp⟩,x,rfl,hx,x0,x1,x2,x3,x4,vf,x5,x6⟩:=H2.o.1.elem H2.o.2 ar;obtain rfl:sp=none:=x0.1;have x7:=x6.later (Kp.of zZ.o);obtain⟨af,cf,hf,_⟩:=x6;obtain⟨rfl,lf,mf,_,_⟩:=hf;have y5:=(x5.later (Kp.of zZ.o)).2;simp only[<-Nat.add_assoc]at y5;have mO:(k:Int)<(b.parts.length:Int):=by omega
   have HX:=hid hx;clear x0 x1 x2 x3 x4 x5 hx lf mf;have hlen:=ip p b.parts k;have bQ:=hB.o.size;have hH:=DX wr _ _ p x7;by_cases hp:p∈x.fits
   .have HY:Hid (cO p b.parts (k+1)=cO p b.parts k++[(k:Int)]):=uT HX.o hp;rw[decide_eq_true hp]at hH;clear hp
    go_wp2_with(first
     |(go_at_call 77;refine hH.mono ?_;rintro e w' ⟨rfl,rfl⟩)
     |(at_builtin;refine wpList_append_own _ rfl (.tmp 22) (.tmp 24) 35 rfl A1.heap.size 3 i0 (.int .i64 0) 1 8 lT hi tn mU pS rfl (by decide) _ _ _ rfl (hO.o.alloc _) ⟨_,0,none⟩ 1 1 [.int .i64 k] rfl rfl (Ea _ _ _) (wR _) (by unfold maxLen;omega) (by omega) (by simp;omega) ?_
       intro v' w1 dk fy _
       have GU:Hid (w1.ownsRow A1.heap.size 3 1 v' (cO p b.parts (k+1)).length ((cO p b.parts (k+1)).map (Value.int .i64))):=(by
        rw[HY.o,List.length_append,List.map_append];exact dk)
       have iI:Hid (Below A1.heap.size A1 w1):=Below.grown (hB.o.alloc hB.o.size _) fy (by have:=hB.o.size;simp;omega) (qW hO.o);clear dk fy))
    go_round
    case rel=>exact⟨k+1,by omega,by go_num,GU,iI⟩
    case measure=>simp[intOf];omega
   .have HY:Hid (cO p b.parts (k+1)=cO p b.parts k):=zE HX.o hp;rw[decide_eq_false hp]at hH;clear hp;go_wp2_with(go_at_call 77;refine hH.mono ?_;rintro e w' ⟨rfl,rfl⟩)
    go_round
    case rel=>exact⟨k+1,by omega,by go_num,by rw[HY.o];exact hO,hB⟩
    case measure=>simp[intOf];omega
  .have e:k=b.parts.length:=by omega
   subst e;go_wp2
   go_ret;exact MS.mk (aC.ii hO.o) zZ.o
def gH (w:World) (v:Value) (L:List (List Int)):Prop:=
 ∃a cap,bS w v L.length a cap/\∀b,a=some b->∀j l,L[j]?=some l->∃vf,At w b j vf/\aC w vf l
theorem gH.later (h:gH w v L) (hb:Kp w w'):gH w' v L:=
 let⟨a,cap,h1,h2⟩:=h
 ⟨a,cap,h1.later hb,fun b e j l hj=>let⟨vf,h3,h4⟩:=h2 b e j l hj;⟨vf,h3.later hb,h4.later hb⟩⟩
def gu (w:World) (L:List (List Int)) (fs:List Value):Prop:=
 fs.length=L.length/\∀(j:Nat) (l:List Int) (f:Value),L[j]?=some l->fs[j]?=some f->w.ownsRow 0 3 1 f l.length (l.map (Value.int .i64))
theorem gu.nil (w:World):gu w [] []:=⟨rfl,fun j l f h=>by simp at h⟩
theorem gu.snoc {l:List Int} {f:Value} (h:gu w L fs) (hf:w.ownsRow 0 3 1 f l.length (l.map (Value.int .i64))):gu w (L++[l]) (fs++[f]):=by
 refine⟨by simp[h.1],fun j y g hy hg=>?_⟩;by_cases e:j<L.length
 .rw[List.getElem?_append_left e]at hy;rw[List.getElem?_append_left (by rw[h.1];exact e)]at hg;exact h.2 j y g hy hg
 .rw[List.getElem?_append_right (by omega)]at hy;rw[List.getElem?_append_right (by rw[h.1];omega)]at hg
  have:j-L.length=0:=by
   have:=(List.getElem?_eq_some_iff.1 hy).1;simp at this;omega
  rw[this]at hy;rw[h.1,this]at hg;simp at hy hg;subst hy hg;exact hf
theorem gu.on (h:gu w L fs) (hk:∀(k:Nat) (cur:Array Value),w.heap[k]?=some (Obj.cells cur 3 (0,0))->w'.heap[k]?=w.heap[k]?):gu w' L fs:=
 ⟨h.1,fun j x f hx hf=>by
   have ho:=h.2 j x f hx hf;refine bH ho fun k e=>?_;obtain⟨_,⟨rfl,_⟩|⟨g,cap,cur,rfl,_,hg,_⟩⟩:=ho
   .cases e
   .cases e;exact hk _ _ hg⟩
theorem gH.ii {B:Nat} (h:w.ownsRow B 35 1 v L.length fs) (hf:gu w L fs):gH w v L:=by
 obtain⟨_,⟨rfl,h0⟩|⟨g,cap,cur,rfl,_,hg,hle,jt,bQ,Rt⟩⟩:=h
 .have:L=[]:=List.eq_nil_of_length_eq_zero h0;subst this;exact⟨none,0,⟨rfl,Nat.le_refl _,by unfold maxLen;omega,fun _=>rfl,(fun b hb=>by cases hb)⟩,fun b hb=>by cases hb⟩
 .refine⟨_,cap,⟨rfl,hle,jt,(fun h=>by cases h),fun b hb=>Or.inr ⟨cur,35,(0,0),by cases hb;exact hg⟩⟩,fun b hb j l hj=>?_⟩;cases hb;have qN:j<L.length:=(List.getElem?_eq_some_iff.1 hj).1;obtain⟨f,hfj⟩:∃f,fs[j]?=some f:=⟨_,List.getElem?_eq_getElem (by rw[hf.1];exact qN)⟩
  refine⟨f,⟨rfl,?_⟩,aC.ii (hf.2 j l f hj hfj)⟩;simp only[World.cell?,hg];rw[<-Rt,List.getElem?_take,if_pos (by omega)]at hfj;simpa using hfj
theorem pA {ops:Array Oper} {o:Oper} {a:Act} {K:Act->World->Prop} {Q:Exit->Act->World->Prop} {E:Prop} (NS:o.guard=none) (s x:Operand)
 (ho:o.op=.call {callee:=.builtin .append,args:=#[s,x],argTypes:=#[35,35]}) (base:Nat)
 (v:Value) (n:Nat) (xs:List Value) (hs:a.eval s=v) (bO:w.ownsRow base 3 1 v n xs) (f:Value) (l:List Int) (hx:a.eval x=f) (hf:aC w f l) (hn:n+l.length<=1000) (kS:base<=w.heap.size)
 (h:∀v' w',w'.ownsRow base 3 1 v' (n+l.length) (xs++l.map (Value.int .i64))->w.grownBy w' v.ownBlock->K (a.put o.dst v') w'):
 if Region.wanted o (yielded ops a.tmps)=true then Oper.wp ZP o a w K Q else E:=by
 obtain⟨i0,hi,tn,mU,pS⟩:=info_parts pU;obtain⟨oa,c,⟨rfl,hle,Y8,zbL,_⟩,hc⟩:=hf;cases oa with
 |none=>
  have hc0:=zbL rfl;subst hc0;have OU:l=[]:=List.eq_nil_of_length_eq_zero (by omega);subst OU;have hw:Region.wanted o (yielded ops a.tmps)=true:=by simp[Region.wanted,NS]
  rw[if_pos hw];have aX:=run_append_owned_none (P:=ZP) (w:=w) base 35 o.type 3 i0 1 lT hi v n xs bO;have uk:a.eval x=.slice none 0 0:=by rw[hx];rfl
  unfold Oper.wp execOp;simp only[ho,resolve,invoke,builtin,Sem.run_bind,Sem.run_pure,Result.andThen_ok,List.map_toArray,List.map_cons,List.map_nil,hs,uk,aX];exact h v w (by simpa using bO) ⟨rfl,rfl,rfl,Nat.le_refl _,fun _ _ _=>rfl⟩
 |some ad=>
  refine hQ NS s x 35 ho base 3 i0 (.int .i64 0) 1 8 lT hi tn mU pS rfl (by decide) v n xs hs bO ad l.length c (l.map (Value.int .i64)) hx (by simp) (fun j u hu=>?_) (fun u hu=>by obtain⟨y,_,rfl⟩:=List.mem_map.1 hu;rfl) (by unfold maxLen;omega) (by omega) kS h;rw[List.getElem?_map]at hu;obtain⟨y,hy,rfl⟩:=Option.map_eq_some_iff.1 hu;have h3:=hc ad rfl j y hy;obtain⟨bb,bo,bs⟩:=ad;obtain rfl:bs=none:=h3.1;rw[show(⟨bb,bo,none⟩:Addr).add j=⟨bb,bo+j,none⟩ by unfold Addr.add;split<;>simp_all];exact h3.2
end Go.Proofs.Cz
