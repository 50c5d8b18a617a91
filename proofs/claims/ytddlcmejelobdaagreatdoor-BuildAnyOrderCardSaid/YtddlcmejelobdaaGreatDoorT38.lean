/- A part. Conditions: none. -/
import Derived.Test.YtddlcmejelobdaaGreatDoorT35
import Derived.Laws.AppendOwnNone
set_option linter.all false
set_option maxHeartbeats 8000000
set_option maxRecDepth 100000
namespace Go.Proofs.Cz
open Go.RowKit
variable {L:List (List Int)} {fs:List fu} {v:fu} {w w':nq}
def Kx (w:nq) (v:fu) (b:ab) (p:Int) (hb:ar w v b) (hm:b.ptz.length<=5):Calls ZP 111 #[v,.int .i64 p] w (Ke w (df b p)):=by
 obtain⟨v2,v3,v4,rfl,⟨a2,c2,h2,f2⟩,⟨a3,c3,⟨rfl,_,_,_,_⟩,_⟩,⟨a4,c4,⟨rfl,_,_,_,_⟩,_⟩⟩:=hb;have H2:Hid (bT w v2 b.ptz.length a2 c2/\_):=⟨h2,f2⟩
 obtain⟨rfl,l2,m2,n2,r2⟩:=h2;unfold maxLen at m2;clear r2 f2 n2;obtain⟨i0,hi,tw,nI,qm⟩:=info_parts ow;obtain⟨A1,bh⟩:=ex1 (w.alloc (.cells #[.int .i64 b.ak,.int .i64 b.ah,.slice a2 b.ptz.length c2,.slice a3 b.aL.length c3,.slice a4 b.aX.length c4] 26));have B1:=bnew bh;have HW:=wnew bh;have qD:Hid (A1.heap.size=w.heap.size+1):=(by rw[<-bh];simp:A1.heap.size=w.heap.size+1)
 obtain⟨-,-,z2⟩:=B1.o.c3;go_enter ZF111,Tryz.ntmps111
 go_wp2
 clear bh z2;go_loopw [6,5] (λi v wr=>∃k:Nat,k<=b.ptz.length/\i=.int .i64 k/\Hid (wr.ownsRow A1.heap.size 3 1 v (dC p b.ptz k).length ((dC p b.ptz k).map (Value.int .i64)))/\Hid (Below A1.heap.size A1 wr)) (λi _ _=>b.ptz.length-(intOf i).toNat)
 case atStart=>exact⟨0,zAM _,rfl,World.ownsRow_nil _ _ _ _,Below.refl _ _⟩
 case round=>
  obtain⟨k,hk,rfl,hO,hB⟩:=hrel;have tA:=HW.t hB.o;obtain⟨-,-,z2⟩:=(hidb B1 hB.o).o.c3;by_cases av:k<b.ptz.length
  .obtain⟨⟨blk,off,sp⟩,x,rfl,hx,x0,x1,x2,x3,x4,vf,x5,x6⟩:=H2.o.1.elem H2.o.2 av;obtain rfl:sp=none:=x0.1;have x7:=x6.later (Kp.of tA.o);obtain⟨af,cf,hf,_⟩:=x6;obtain⟨rfl,lf,mf,_,_⟩:=hf;have y5:=(x5.later (Kp.of tA.o)).2;simp only[<-zBD]at y5;have f7:(k:Int)<(b.ptz.length:Int):=by omega
   have HX:=hid hx;clear x0 x1 x2 x3 x4 x5 hx lf mf;have hlen:=ji p b.ptz k;have cr:=hB.o.size;have hH:=Iq wr _ _ p x7;by_cases hp:p∈x.fits
   .have HY:Hid (dC p b.ptz (k+1)=dC p b.ptz k++[(k:Int)]):=yH HX.o hp;rw[zDS hp]at hH;clear hp
    go_wp2_with(first
     |(go_at_call 77;refine hH.mono ?_;rintro e w' ⟨rfl,rfl⟩)
     |(at_builtin;refine wpList_append_own _ rfl (.tmp 22) (.tmp 24) 35 rfl A1.heap.size 3 i0 (.int .i64 0) 1 8 gO hi tw nI qm rfl (by decide) _ _ _ rfl (hO.o.alloc _) ⟨_,0,none⟩ 1 1 [.int .i64 k] rfl rfl (tT _ _ _) (qx _) (by unfold maxLen;omega) (by omega) (by simp;omega) ?_
       intro v' w1 dO cF _
       have vq:Hid (w1.ownsRow A1.heap.size 3 1 v' (dC p b.ptz (k+1)).length ((dC p b.ptz (k+1)).map (Value.int .i64))):=(by
        rw[HY.o,zAZ,zCJ];exact dO)
       have gW:Hid (Below A1.heap.size A1 w1):=Below.grown (hB.o.alloc hB.o.size _) cF (by have:=hB.o.size;simp;omega) (dD hO.o);clear dO cF))
    go_round
    case rel=>exact⟨k+1,by omega,by go_num,vq,gW⟩
    case measure=>simp[intOf];omega
   .have HY:Hid (dC p b.ptz (k+1)=dC p b.ptz k):=Dj HX.o hp;rw[zDV hp]at hH;clear hp;go_wp2_with(go_at_call 77;refine hH.mono ?_;rintro e w' ⟨rfl,rfl⟩)
    go_round
    case rel=>exact⟨k+1,by omega,by go_num,by rw[HY.o];exact hO,hB⟩
    case measure=>simp[intOf];omega
  .have e:k=b.ptz.length:=by omega
   subst e;go_wp2
   go_ret;exact Ke.mk (ao.eS hO.o) tA.o
def IJ (w:nq) (v:fu) (L:List (List Int)):Prop:=
 ∃a cap,bT w v L.length a cap/\∀b,a=some b->∀j l,L[j]?=some l->∃vf,At w b j vf/\ao w vf l
def il (w:nq) (L:List (List Int)) (fs:List fu):Prop:=
 fs.length=L.length/\∀(j:Nat) (l:List Int) (f:fu),L[j]?=some l->fs[j]?=some f->w.ownsRow 0 3 1 f l.length (l.map (Value.int .i64))
def il.nil (w:nq):il w [] []:=⟨rfl,λj l f h=>by simp at h⟩
def il.snoc {l:List Int} {f:fu} (h:il w L fs) (hf:w.ownsRow 0 3 1 f l.length (l.map (Value.int .i64))):il w (L++[l]) (fs++[f]):=by
 refine⟨by simp[h.1],λj y g hy hg=>?_⟩;by_cases e:j<L.length
 .rw[zCV e]at hy;rw[zCV (by rw[h.1];exact e)]at hg;exact h.2 j y g hy hg
 .rw[zDO (by omega)]at hy;rw[zDO (by rw[h.1];omega)]at hg
  have:j-L.length=0:=by
   have:=(zAT.1 hy).1;simp at this;omega
  rw[this]at hy;rw[h.1,this]at hg;simp at hy hg;subst hy hg;exact hf
def il.on (h:il w L fs) (hk:∀(k:Nat) (cur:Array fu),w.heap[k]?=some (Obj.cells cur 3 (0,0))->w'.heap[k]?=w.heap[k]?):il w' L fs:=
 ⟨h.1,λj x f hx hf=>by
   have ho:=h.2 j x f hx hf;refine aJ ho λk e=>?_;obtain⟨_,⟨rfl,_⟩|⟨g,cap,cur,rfl,_,hg,_⟩⟩:=ho
   .cases e
   .cases e;exact hk _ _ hg⟩
def N6 (w:nq) (v:fu):Prop:=∀k,v.ownBlock=some k->∃cur,w.heap[k]?=some (.cells cur 3 (0,0))
def N6.later (h:N6 w v) (hb:Kp w w'):N6 w' v:=λk e=>let⟨cur,hc⟩:=h k e;⟨cur,(hb k (zAD.1 hc).1).trans hc⟩
def fS (w:nq) (v:fu) (L:List (List Int)):Prop:=
 ∃a cap,bT w v L.length a cap/\∀b,a=some b->∀j l,L[j]?=some l->∃vf,At w b j vf/\ao w vf l/\N6 w vf
def fS.at (h:fS w v L):IJ w v L:=
 let⟨a,cap,h1,h2⟩:=h
 ⟨a,cap,h1,λb e j l hj=>let⟨vf,h3,h4,_⟩:=h2 b e j l hj;⟨vf,h3,h4⟩⟩
def fS.later (h:fS w v L) (hb:Kp w w'):fS w' v L:=
 let⟨a,cap,h1,h2⟩:=h
 ⟨a,cap,h1.later hb,λb e j l hj=>let⟨vf,h3,h4,h5⟩:=h2 b e j l hj;⟨vf,h3.later hb,h4.later hb,h5.later hb⟩⟩
def fS.eS {B:Nat} (h:w.ownsRow B 35 1 v L.length fs) (hf:il w L fs):fS w v L:=by
 obtain⟨_,⟨rfl,h0⟩|⟨g,cap,cur,rfl,_,hg,hle,kv,cr,Nz⟩⟩:=h
 .have:L=[]:=zBZ h0;subst this;exact⟨none,0,⟨rfl,zAB _,by unfold maxLen;omega,λ_=>rfl,(λb hb=>by cases hb)⟩,λb hb=>by cases hb⟩
 .refine⟨_,cap,⟨rfl,hle,kv,(λh=>by cases h),λb hb=>Or.inr ⟨cur,35,(0,0),by cases hb;exact hg⟩⟩,λb hb j l hj=>?_⟩;cases hb;have pW:j<L.length:=(zAT.1 hj).1;obtain⟨f,hfj⟩:∃f,fs[j]?=some f:=⟨_,zAJ (by rw[hf.1];exact pW)⟩
  refine⟨f,⟨rfl,?_⟩,ao.eS (hf.2 j l f hj hfj),λk ek=>?_⟩;rotate_left
  .obtain⟨_,⟨rfl,_⟩|⟨g,cap,cur,rfl,_,hg,_⟩⟩:=hf.2 j l f hj hfj
   .cases ek
   .cases ek;exact⟨_,hg⟩
  simp only[World.cell?,hg];rw[<-Nz,zDT,zAF (by omega)]at hfj;simpa using hfj
def rQ {ops:Array Oper} {o:Oper} {a:Act} {K:Act->nq->Prop} {Q:Exit->Act->nq->Prop} {E:Prop} (S3:o.guard=none) (s x:Operand)
 (ho:o.op=.call {callee:=.builtin .append,args:=#[s,x],argTypes:=#[35,35]}) (base:Nat)
 (v:fu) (n:Nat) (xs:List fu) (hs:a.eval s=v) (bQ:w.ownsRow base 3 1 v n xs) (f:fu) (l:List Int) (hx:a.eval x=f) (hf:ao w f l) (hn:n+l.length<=1000) (mK:base<=w.heap.size)
 (h:∀v' w',w'.ownsRow base 3 1 v' (n+l.length) (xs++l.map (Value.int .i64))->w.grownBy w' v.ownBlock->K (a.put o.dst v') w'):
 if Region.wanted o (yielded ops a.tmps)=true then Oper.wp ZP o a w K Q else E:=by
 obtain⟨i0,hi,tw,nI,qm⟩:=info_parts ow;obtain⟨oa,c,⟨rfl,hle,zdY,zgx,_⟩,hc⟩:=hf;cases oa with
 |none=>
  have hc0:=zgx rfl;subst hc0;have Lz:l=[]:=zBZ (by omega);subst Lz;have hw:Region.wanted o (yielded ops a.tmps)=true:=by simp[Region.wanted,S3]
  rw[zAF hw];have bp:=run_append_owned_none (P:=ZP) (w:=w) base 35 o.type 3 i0 1 gO hi v n xs bQ;have wO:a.eval x=.slice none 0 0:=by rw[hx];rfl
  unfold Oper.wp execOp;simp only[ho,resolve,invoke,builtin,Sem.run_bind,Sem.run_pure,Result.andThen_ok,List.map_toArray,List.map_cons,List.map_nil,hs,wO,bp];exact h v w (by simpa using bQ) ⟨rfl,rfl,rfl,zAB _,λ_ _ _=>rfl⟩
 |some ad=>
  refine iW S3 s x 35 ho base 3 i0 (.int .i64 0) 1 8 gO hi tw nI qm rfl (by decide) v n xs hs bQ ad l.length c (l.map (Value.int .i64)) hx (by simp) (λj u hu=>?_) (λu hu=>by obtain⟨y,_,rfl⟩:=zBO.1 hu;rfl) (by unfold maxLen;omega) (by omega) mK h;rw[zCM]at hu;obtain⟨y,hy,rfl⟩:=zDB.1 hu;have h3:=hc ad rfl j y hy;obtain⟨bb,bo,bs⟩:=ad;obtain rfl:bs=none:=h3.1;rw[show(⟨bb,bo,none⟩:Addr).add j=⟨bb,bo+j,none⟩ by unfold Addr.add;split<;>simp_all];exact h3.2
end Go.Proofs.Cz
