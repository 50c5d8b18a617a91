/- A part. Conditions: none. -/
import Derived.Test.YtehbindidbgacaaGreatDoorT34
import Derived.Laws.AppendOwnNone
set_option linter.all false
set_option maxHeartbeats 8000000
set_option maxRecDepth 100000
namespace Go.Proofs.Cz
open Go.RowKit
variable {L:List (List Int)} {fs:List Value} {v:Value} {w w':World}
theorem G5 (w:World) (v:Value) (b:ap) (p:Int) (hb:ar w v b) (hm:b.parts.length<=5):Calls ZP 97 #[v,.int .i64 p] w (Oa w (db b p)):=by
 obtain⟨v2,v3,v4,rfl,⟨a2,c2,h2,f2⟩,⟨a3,c3,⟨rfl,_,_,_,_⟩,_⟩,⟨a4,c4,⟨rfl,_,_,_,_⟩,_⟩⟩:=hb;have H2:Hid (bA w v2 b.parts.length a2 c2/\_):=⟨h2,f2⟩
 obtain⟨rfl,l2,m2,n2,r2⟩:=h2;unfold maxLen at m2;clear r2 f2 n2;obtain⟨i0,hi,lP,jr,kr⟩:=info_parts m6;obtain⟨A1,aV⟩:=ex1 (w.alloc (.cells #[.int .i64 b.ac,.int .i64 b.places,.slice a2 b.parts.length c2,.slice a3 b.apart.length c3,.slice a4 b.aa.length c4] 26));have B1:=bnew aV;have HW:=wnew aV;have Ip:Hid (A1.heap.size=w.heap.size+1):=(by rw[<-aV];simp:A1.heap.size=w.heap.size+1)
 obtain⟨-,-,z2⟩:=B1.o.c3;go_enter ZF97,Tryz.ntmps97
 go_wp2
 clear aV z2;go_loopw [6,5] (λi v wr=>∃k:Nat,k<=b.parts.length/\i=.int .i64 k/\Hid (wr.ownsRow A1.heap.size 3 1 v (cM p b.parts k).length ((cM p b.parts k).map (Value.int .i64)))/\Hid (Below A1.heap.size A1 wr)) (λi _ _=>b.parts.length-(intOf i).toNat)
 case atStart=>exact⟨0,zAR _,rfl,World.ownsRow_nil _ _ _ _,Below.refl _ _⟩
 case round=>
  obtain⟨k,hk,rfl,hO,hB⟩:=hrel;have mP:=HW.t hB.o;obtain⟨-,-,z2⟩:=(hidb B1 hB.o).o.c3;by_cases az:k<b.parts.length
  .obtain⟨⟨blk,off,sp⟩,x,rfl,hx,x0,x1,x2,x3,x4,vf,x5,x6⟩:=H2.o.1.elem H2.o.2 az;obtain rfl:sp=none:=x0.1;have x7:=x6.later (Kp.of mP.o);obtain⟨af,cf,hf,_⟩:=x6;obtain⟨rfl,lf,mf,_,_⟩:=hf;have y5:=(x5.later (Kp.of mP.o)).2;simp only[<-zBE]at y5;have j0:(k:Int)<(b.parts.length:Int):=by omega
   have HX:=hid hx;clear x0 x1 x2 x3 x4 x5 hx lf mf;have hlen:=iE p b.parts k;have bW:=hB.o.size;have hH:=xN wr _ _ p x7;by_cases hp:p∈x.fits
   .have HY:Hid (cM p b.parts (k+1)=cM p b.parts k++[(k:Int)]):=vR HX.o hp;rw[zDD hp]at hH;clear hp
    go_wp2_with(first
     |(go_at_call 17;refine hH.mono ?_;rintro e w' ⟨rfl,rfl⟩)
     |(at_builtin;refine wpList_append_own _ rfl (.tmp 22) (.tmp 24) 31 rfl A1.heap.size 3 i0 (.int .i64 0) 1 8 gQ hi lP jr kr rfl (by decide) _ _ _ rfl (hO.o.alloc _) ⟨_,0,none⟩ 1 1 [.int .i64 k] rfl rfl (xU _ _ _) (rM _) (by unfold maxLen;omega) (by omega) (by simp;omega) ?_
       intro v' w1 cF dq _
       have Dt:Hid (w1.ownsRow A1.heap.size 3 1 v' (cM p b.parts (k+1)).length ((cM p b.parts (k+1)).map (Value.int .i64))):=(by
        rw[HY.o,zBA,zCU];exact cF)
       have gm:Hid (Below A1.heap.size A1 w1):=Below.grown (hB.o.alloc hB.o.size _) dq (by have:=hB.o.size;simp;omega) (oQ hO.o);clear cF dq))
    go_round
    case rel=>exact⟨k+1,by omega,by go_num,Dt,gm⟩
    case measure=>simp[intOf];omega
   .have HY:Hid (cM p b.parts (k+1)=cM p b.parts k):=AA HX.o hp;rw[zDR hp]at hH;clear hp;go_wp2_with(go_at_call 17;refine hH.mono ?_;rintro e w' ⟨rfl,rfl⟩)
    go_round
    case rel=>exact⟨k+1,by omega,by go_num,by rw[HY.o];exact hO,hB⟩
    case measure=>simp[intOf];omega
  .have e:k=b.parts.length:=by omega
   subst e;go_wp2
   go_ret;exact Oa.mk (am.eD hO.o) mP.o
def gS (w:World) (v:Value) (L:List (List Int)):Prop:=
 ∃a cap,bA w v L.length a cap/\∀b,a=some b->∀j l,L[j]?=some l->∃vf,At w b j vf/\am w vf l
theorem gS.later (h:gS w v L) (hb:Kp w w'):gS w' v L:=
 let⟨a,cap,h1,h2⟩:=h
 ⟨a,cap,h1.later hb,λb e j l hj=>let⟨vf,h3,h4⟩:=h2 b e j l hj;⟨vf,h3.later hb,h4.later hb⟩⟩
def gI (w:World) (L:List (List Int)) (fs:List Value):Prop:=
 fs.length=L.length/\∀(j:Nat) (l:List Int) (f:Value),L[j]?=some l->fs[j]?=some f->w.ownsRow 0 3 1 f l.length (l.map (Value.int .i64))
theorem gI.nil (w:World):gI w [] []:=⟨rfl,λj l f h=>by simp at h⟩
theorem gI.snoc {l:List Int} {f:Value} (h:gI w L fs) (hf:w.ownsRow 0 3 1 f l.length (l.map (Value.int .i64))):gI w (L++[l]) (fs++[f]):=by
 refine⟨by simp[h.1],λj y g hy hg=>?_⟩;by_cases e:j<L.length
 .rw[zCR e]at hy;rw[zCR (by rw[h.1];exact e)]at hg;exact h.2 j y g hy hg
 .rw[zDI (by omega)]at hy;rw[zDI (by rw[h.1];omega)]at hg
  have:j-L.length=0:=by
   have:=(zAK.1 hy).1;simp at this;omega
  rw[this]at hy;rw[h.1,this]at hg;simp at hy hg;subst hy hg;exact hf
theorem gI.on (h:gI w L fs) (hk:∀(k:Nat) (cur:Array Value),w.heap[k]?=some (Obj.cells cur 3 (0,0))->w'.heap[k]?=w.heap[k]?):gI w' L fs:=
 ⟨h.1,λj x f hx hf=>by
   have ho:=h.2 j x f hx hf;refine aR ho λk e=>?_;obtain⟨_,⟨rfl,_⟩|⟨g,cap,cur,rfl,_,hg,_⟩⟩:=ho
   .cases e
   .cases e;exact hk _ _ hg⟩
theorem gS.eD {B:Nat} (h:w.ownsRow B 31 1 v L.length fs) (hf:gI w L fs):gS w v L:=by
 obtain⟨_,⟨rfl,h0⟩|⟨g,cap,cur,rfl,_,hg,hle,i9,bW,Ku⟩⟩:=h
 .have:L=[]:=zBL h0;subst this;exact⟨none,0,⟨rfl,zAC _,by unfold maxLen;omega,λ_=>rfl,(λb hb=>by cases hb)⟩,λb hb=>by cases hb⟩
 .refine⟨_,cap,⟨rfl,hle,i9,(λh=>by cases h),λb hb=>Or.inr ⟨cur,31,(0,0),by cases hb;exact hg⟩⟩,λb hb j l hj=>?_⟩;cases hb;have ou:j<L.length:=(zAK.1 hj).1;obtain⟨f,hfj⟩:∃f,fs[j]?=some f:=⟨_,zAJ (by rw[hf.1];exact ou)⟩
  refine⟨f,⟨rfl,?_⟩,am.eD (hf.2 j l f hj hfj)⟩;simp only[World.cell?,hg];rw[<-Ku,zDZ,zAI (by omega)]at hfj;simpa using hfj
theorem qb {ops:Array Oper} {o:Oper} {a:Act} {K:Act->World->Prop} {Q:Exit->Act->World->Prop} {E:Prop} (IG:o.guard=none) (s x:Operand)
 (ho:o.op=.call {callee:=.builtin .append,args:=#[s,x],argTypes:=#[31,31]}) (base:Nat)
 (v:Value) (n:Nat) (xs:List Value) (hs:a.eval s=v) (bN:w.ownsRow base 3 1 v n xs) (f:Value) (l:List Int) (hx:a.eval x=f) (hf:am w f l) (hn:n+l.length<=1000) (jT:base<=w.heap.size)
 (h:∀v' w',w'.ownsRow base 3 1 v' (n+l.length) (xs++l.map (Value.int .i64))->w.grownBy w' v.ownBlock->K (a.put o.dst v') w'):
 if Region.wanted o (yielded ops a.tmps)=true then Oper.wp ZP o a w K Q else E:=by
 obtain⟨i0,hi,lP,jr,kr⟩:=info_parts m6;obtain⟨oa,c,⟨rfl,hle,VI,Tv,_⟩,hc⟩:=hf;cases oa with
 |none=>
  have KP:=Tv rfl;subst KP;have yY:l=[]:=zBL (by omega);subst yY;have hw:Region.wanted o (yielded ops a.tmps)=true:=by simp[Region.wanted,IG]
  rw[zAI hw];have aW:=run_append_owned_none (P:=ZP) (w:=w) base 31 o.type 3 i0 1 gQ hi v n xs bN;have kW:a.eval x=.slice none 0 0:=by rw[hx];rfl
  unfold Oper.wp execOp;simp only[ho,resolve,invoke,builtin,Sem.run_bind,Sem.run_pure,Result.andThen_ok,List.map_toArray,List.map_cons,List.map_nil,hs,kW,aW];exact h v w (by simpa using bN) ⟨rfl,rfl,rfl,zAC _,λ_ _ _=>rfl⟩
 |some ad=>
  refine dk IG s x 31 ho base 3 i0 (.int .i64 0) 1 8 gQ hi lP jr kr rfl (by decide) v n xs hs bN ad l.length c (l.map (Value.int .i64)) hx (by simp) (λj u hu=>?_) (λu hu=>by obtain⟨y,_,rfl⟩:=zCL.1 hu;rfl) (by unfold maxLen;omega) (by omega) jT h;rw[zCV]at hu;obtain⟨y,hy,rfl⟩:=zCP.1 hu;have h3:=hc ad rfl j y hy;obtain⟨bb,bo,bs⟩:=ad;obtain rfl:bs=none:=h3.1;rw[show(⟨bb,bo,none⟩:Addr).add j=⟨bb,bo+j,none⟩ by unfold Addr.add;split<;>simp_all];exact h3.2
end Go.Proofs.Cz
