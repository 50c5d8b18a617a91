/- A part. Conditions: none. -/
import Derived.Test.YtboiakcocelkmaaGreatDoorT34
import Derived.Laws.AppendOwnNone
set_option linter.all false
set_option maxHeartbeats 8000000
set_option maxRecDepth 100000
namespace Go.Proofs.Cz
open Go.RowKit
variable {L:List (List Int)} {b:ao} {fs:List Value} {l:List Int} {v:Value} {w w':World}
theorem FU (w:World) (v:Value) (b:ao) (p:Int) (hb:au w v b) (hm:b.parts.length<=5):Calls ZP 69 #[v,.int .i64 p] w (MH w (df b p)):=by
 obtain⟨v2,v3,v4,rfl,⟨a2,c2,h2,f2⟩,⟨a3,c3,⟨rfl,_,_,_,_⟩,_⟩,⟨a4,c4,⟨rfl,_,_,_,_⟩,_⟩⟩:=hb;have H2:Hid (bH w v2 b.parts.length a2 c2/\_):=⟨h2,f2⟩
 obtain⟨rfl,l2,m2,n2,r2⟩:=h2;unfold maxLen at m2;clear r2 f2 n2;obtain⟨i0,hi,pW,li,m8⟩:=info_parts kq;obtain⟨A1,aV⟩:=ex1 (w.alloc (.cells #[.int .i64 b.ak,.int .i64 b.places,.slice a2 b.parts.length c2,.slice a3 b.apart.length c3,.slice a4 b.ab.length c4] 26));have B1:=bnew aV;have HW:=wnew aV;have SA:Hid (A1.heap.size=w.heap.size+1):=(by rw[<-aV];simp:A1.heap.size=w.heap.size+1)
 obtain⟨-,-,z2⟩:=B1.o.c3;go_enter ZF69,Tryz.ntmps69
 go_wp2
 clear aV z2;go_loopw [6,5] (fun i v wr=>∃k:Nat,k<=b.parts.length/\i=.int .i64 k/\Hid (wr.ownsRow A1.heap.size 3 1 v (dt p b.parts k).length ((dt p b.parts k).map (Value.int .i64)))/\Hid (Below A1.heap.size A1 wr)) (fun i _ _=>b.parts.length-(intOf i).toNat)
 case atStart=>exact⟨0,Nat.zero_le _,rfl,World.ownsRow_nil _ _ _ _,Below.refl _ _⟩
 case round=>
  obtain⟨k,hk,rfl,hO,hB⟩:=hrel;have HWr:=HW.t hB.o;obtain⟨-,-,z2⟩:=(hidb B1 hB.o).o.c3;by_cases az:k<b.parts.length
  .obtain⟨⟨blk,off,sp⟩,x,rfl,hx,x0,x1,x2,x3,x4,vf,x5,x6⟩:=H2.o.1.elem H2.o.2 az;obtain rfl:sp=none:=x0.1;have x7:=x6.later (Kp.of HWr.o);obtain⟨af,cf,hf,_⟩:=x6;obtain⟨rfl,lf,mf,_,_⟩:=hf;have y5:=(x5.later (Kp.of HWr.o)).2;simp only[<-Nat.add_assoc]at y5;have nL:(k:Int)<(b.parts.length:Int):=by omega
   have HX:=hid hx;clear x0 x1 x2 x3 x4 x5 hx lf mf;have hlen:=ib p b.parts k;have bX:=hB.o.size;have hH:=DX wr _ _ p x7;by_cases hp:p∈x.fits
   .have HY:Hid (dt p b.parts (k+1)=dt p b.parts k++[(k:Int)]):=uZ HX.o hp;rw[decide_eq_true hp]at hH;clear hp
    go_wp2_with(first
     |(go_at_call 108;refine hH.mono ?_;rintro e w' ⟨rfl,rfl⟩)
     |(at_builtin;refine wpList_append_own _ rfl (.tmp 22) (.tmp 24) 27 rfl A1.heap.size 3 i0 (.int .i64 0) 1 8 fH hi pW li m8 rfl (by decide) _ _ _ rfl (hO.o.alloc _) ⟨_,0,none⟩ 1 1 [.int .i64 k] rfl rfl (iX _ _ _) (iY _) (by unfold maxLen;omega) (by omega) (by simp;omega) ?_
       intro v' w1 eN gE _
       have q7:Hid (w1.ownsRow A1.heap.size 3 1 v' (dt p b.parts (k+1)).length ((dt p b.parts (k+1)).map (Value.int .i64))):=(by
        rw[HY.o,List.length_append,List.map_append];exact eN)
       have eJ:Hid (Below A1.heap.size A1 w1):=Below.grown (hB.o.alloc hB.o.size _) gE (by have:=hB.o.size;simp;omega) (iZ hO.o);clear eN gE))
    go_round
    case rel=>exact⟨k+1,by omega,by go_num,q7,eJ⟩
    case measure=>simp[intOf];omega
   .have HY:Hid (dt p b.parts (k+1)=dt p b.parts k):=zz HX.o hp;rw[decide_eq_false hp]at hH;clear hp;go_wp2_with(go_at_call 108;refine hH.mono ?_;rintro e w' ⟨rfl,rfl⟩)
    go_round
    case rel=>exact⟨k+1,by omega,by go_num,by rw[HY.o];exact hO,hB⟩
    case measure=>simp[intOf];omega
  .have e:k=b.parts.length:=by omega
   subst e;go_wp2
   go_ret;exact MH.mk (an.dW hO.o) HWr.o
def bq (w:World) (v:Value) (L:List (List Int)):Prop:=
 ∃a cap,bH w v L.length a cap/\∀b,a=some b->∀j l,L[j]?=some l->∃vf,At w b j vf/\an w vf l
theorem bq.later (h:bq w v L) (hb:Kp w w'):bq w' v L:=
 let⟨a,cap,h1,h2⟩:=h
 ⟨a,cap,h1.later hb,fun b e j l hj=>let⟨vf,h3,h4⟩:=h2 b e j l hj;⟨vf,h3.later hb,h4.later hb⟩⟩
def fe (w:World) (L:List (List Int)) (fs:List Value):Prop:=
 fs.length=L.length/\∀(j:Nat) (l:List Int) (f:Value),L[j]?=some l->fs[j]?=some f->w.ownsRow 0 3 1 f l.length (l.map (Value.int .i64))
theorem fe.nil (w:World):fe w [] []:=⟨rfl,fun j l f h=>by simp at h⟩
theorem fe.snoc {f:Value} (h:fe w L fs) (hf:w.ownsRow 0 3 1 f l.length (l.map (Value.int .i64))):fe w (L++[l]) (fs++[f]):=by
 refine⟨by simp[h.1],fun j y g hy hg=>?_⟩;by_cases e:j<L.length
 .rw[List.getElem?_append_left e]at hy;rw[List.getElem?_append_left (by rw[h.1];exact e)]at hg;exact h.2 j y g hy hg
 .rw[List.getElem?_append_right (by omega)]at hy;rw[List.getElem?_append_right (by rw[h.1];omega)]at hg
  have:j-L.length=0:=by
   have:=(List.getElem?_eq_some_iff.1 hy).1;simp at this;omega
  rw[this]at hy;rw[h.1,this]at hg;simp at hy hg;subst hy hg;exact hf
theorem fe.on (h:fe w L fs) (hk:∀(k:Nat) (cur:Array Value),w.heap[k]?=some (Obj.cells cur 3 (0,0))->w'.heap[k]?=w.heap[k]?):fe w' L fs:=
 ⟨h.1,fun j x f hx hf=>by
   have ho:=h.2 j x f hx hf;refine bz ho fun k e=>?_;obtain⟨_,⟨rfl,_⟩|⟨g,cap,cur,rfl,_,hg,_⟩⟩:=ho
   .cases e
   .cases e;exact hk _ _ hg⟩
theorem bq.dW {B:Nat} (h:w.ownsRow B 27 1 v L.length fs) (hf:fe w L fs):bq w v L:=by
 obtain⟨_,⟨rfl,h0⟩|⟨g,cap,cur,rfl,_,hg,hle,iG,bX,sC⟩⟩:=h
 .have:L=[]:=List.eq_nil_of_length_eq_zero h0;subst this;exact⟨none,0,⟨rfl,Nat.le_refl _,by unfold maxLen;omega,fun _=>rfl,(fun b hb=>by cases hb)⟩,fun b hb=>by cases hb⟩
 .refine⟨_,cap,⟨rfl,hle,iG,(fun h=>by cases h),fun b hb=>Or.inr ⟨cur,27,(0,0),by cases hb;exact hg⟩⟩,fun b hb j l hj=>?_⟩;cases hb;have mG:j<L.length:=(List.getElem?_eq_some_iff.1 hj).1;obtain⟨f,Q4⟩:∃f,fs[j]?=some f:=⟨_,List.getElem?_eq_getElem (by rw[hf.1];exact mG)⟩
  refine⟨f,⟨rfl,?_⟩,an.dW (hf.2 j l f hj Q4)⟩;simp only[World.cell?,hg];rw[<-sC,List.getElem?_take,if_pos (by omega)]at Q4;simpa using Q4
theorem cG {ops:Array Oper} {o:Oper} {a:Act} {K:Act->World->Prop} {Q:Exit->Act->World->Prop} {E:Prop} (Km:o.guard=none) (s x:Operand)
 (ho:o.op=.call {callee:=.builtin .append,args:=#[s,x],argTypes:=#[27,27]}) (base:Nat)
 (v:Value) (n:Nat) (xs:List Value) (hs:a.eval s=v) (bB:w.ownsRow base 3 1 v n xs) (f:Value) (l:List Int) (hx:a.eval x=f) (hf:an w f l) (hn:n+l.length<=1000) (jz:base<=w.heap.size)
 (h:∀v' w',w'.ownsRow base 3 1 v' (n+l.length) (xs++l.map (Value.int .i64))->w.grownBy w' v.ownBlock->K (a.put o.dst v') w'):
 if Region.wanted o (yielded ops a.tmps)=true then Oper.wp ZP o a w K Q else E:=by
 obtain⟨i0,hi,pW,li,m8⟩:=info_parts kq;obtain⟨oa,c,⟨rfl,hle,Tv,za4,_⟩,hc⟩:=hf;cases oa with
 |none=>
  have hc0:=za4 rfl;subst hc0;have MX:l=[]:=List.eq_nil_of_length_eq_zero (by omega);subst MX;have hw:Region.wanted o (yielded ops a.tmps)=true:=by simp[Region.wanted,Km]
  rw[if_pos hw];have aZ:=run_append_owned_none (P:=ZP) (w:=w) base 27 o.type 3 i0 1 fH hi v n xs bB;have Bd:a.eval x=.slice none 0 0:=by rw[hx];rfl
  unfold Oper.wp execOp;simp only[ho,resolve,invoke,builtin,Sem.run_bind,Sem.run_pure,Result.andThen_ok,List.map_toArray,List.map_cons,List.map_nil,hs,Bd,aZ];exact h v w (by simpa using bB) ⟨rfl,rfl,rfl,Nat.le_refl _,fun _ _ _=>rfl⟩
 |some ad=>
  refine dO Km s x 27 ho base 3 i0 (.int .i64 0) 1 8 fH hi pW li m8 rfl (by decide) v n xs hs bB ad l.length c (l.map (Value.int .i64)) hx (by simp) (fun j u hu=>?_) (fun u hu=>by obtain⟨y,_,rfl⟩:=List.mem_map.1 hu;rfl) (by unfold maxLen;omega) (by omega) jz h;rw[List.getElem?_map]at hu;obtain⟨y,hy,rfl⟩:=Option.map_eq_some_iff.1 hu;have h3:=hc ad rfl j y hy;obtain⟨bb,bo,bs⟩:=ad;obtain rfl:bs=none:=h3.1;rw[show(⟨bb,bo,none⟩:Addr).add j=⟨bb,bo+j,none⟩ by unfold Addr.add;split<;>simp_all];exact h3.2
theorem ja (w:World) (vt vm:Value) (o l:List Int) (ht:∀i,0<=aa o i/\aa o i<=20) (hT:an w vt o) (hM:an w vm l) (hl:l.length<=20) (pU:∀(j:Nat) (x:Int),l[j]?=some x->0<=x/\x<o.length):
 Calls ZP 62 #[vt,vm] w (gD w (.int .i64 (aB (aa l) (aa o) l.length))):=by
 obtain⟨ta,tc,Lz,hte⟩:=hT;obtain rfl:=Lz.eq;have HT:Hid (bH w (.slice ta o.length tc) o.length ta tc/\∀d,ta=some d->∀(j:Nat) (x:Int),o[j]?=some x->At w d j (.int .i64 x)):=⟨Lz,hte⟩
 obtain⟨ma,mc,Ee,Vz⟩:=hM;obtain rfl:=Ee.eq;have HM:Hid (bH w (.slice ma l.length mc) l.length ma mc/\∀d,ma=some d->∀(j:Nat) (x:Int),l[j]?=some x->At w d j (.int .i64 x)):=⟨Ee,Vz⟩
 have D2:=hid pU;have HR:=hid ht;have GF:=Lz.le;have Ur:=Lz.I2;have sw:=Ee.le;unfold maxLen at Ur;clear Lz hte Ee Vz pU ht;go_enter ZF62,Tryz.ntmps62
 go_wp2
 go_loop [5,6] (fun a i=>∃k:Nat,k<=l.length/\a=.int .i64 (aB (aa l) (aa o) k)/\i=.int .i64 k) (fun _ i=>l.length-(intOf i).toNat)
 case atStart=>exact⟨0,Nat.zero_le _,rfl,rfl⟩
 case round=>
  obtain⟨k,hk,rfl,rfl⟩:=hrel;have bj:=lO (m:=aa l) HR.o k;by_cases az:k<l.length
  .obtain⟨⟨blk,off,sp⟩,x,rfl,hx,x0⟩:=HM.o.1.elem HM.o.2 az;obtain rfl:sp=none:=x0.1;have g0:=x0.2;simp only at g0;have hx2:=D2.o k x hx;obtain⟨xn,rfl⟩:∃xn:Nat,x=(xn:Int):=⟨x.toNat,by omega⟩
   have Dg:xn<o.length:=by omega
   have il:aa l k=(xn:Int):=by unfold aa;rw[hx];rfl
   have HS:Hid (aB (aa l) (aa o) (k+1)=aB (aa l) (aa o) k+aa o xn):=(by
    show aB (aa l) (aa o) k+aa o (aa l k).toNat=_;rw[il,Int.toNat_natCast])
   obtain⟨ta',y,hta,hy,y0⟩:=HT.o.1.elem HT.o.2 Dg;subst hta;obtain⟨tb,zgR,ts⟩:=ta';obtain rfl:ts=none:=y0.1;have hyo:aa o xn=y:=by unfold aa;rw[hy];rfl
   rw[<-hyo]at y0;have g1:=y0.2;simp only at g1;have nL:(k:Int)<(l.length:Int):=by omega
   have htx:=HR.o xn;have hxi:(xn:Int)<(o.length:Int):=by omega
   clear x0 y0 hx il hy hyo;obtain⟨tk,sC⟩:=ex1 (aB (aa l) (aa o) k);have Q5:=hid sC;rw[sC]at bj⊢;clear sC;go_wp2
   go_round
   case rel=>exact⟨k+1,by omega,by rw[HS.o,Q5.o],by go_num⟩
   case measure=>simp[intOf];omega
  .have e:k=l.length:=by omega
   subst e;go_wp2
   go_ret;exact gD.of _ rfl
def iD (m t:Nat->Int):Nat->Int
 |0=>0
 |k+1=>wrap64 (iD m t k+t (m k).toNat)
theorem zU {m t:Nat->Int} (ht:∀i,0<=t i/\t i<=20):∀k:Nat,k<=1000->iD m t k=aB m t k
 |0,_=>rfl
 |k+1,h=>by
  have h1:=lO (m:=m) ht (k+1);have h2:=zU (m:=m) ht k (by omega);have e1:aB m t (k+1)=aB m t k+t (m k).toNat:=rfl;have e2:iD m t (k+1)=wrap64 (iD m t k+t (m k).toNat):=rfl;rw[e2,h2,<-e1];unfold wrap64;omega
theorem FV (w:World) (v2 v3 v4:Value) (b:ao) (N:Nat) (hN:b.places=N) (zJ:N<=4) (m t:Nat->Int) (hm:∀i,i<N->0<=m i/\m i<5):
 Calls ZP 107 #[.agg #[.int .i64 b.ak,.int .i64 b.places,v2,v3,v4],.agg (cW m),.agg (tick t)] w (bK w (.int .i64 (iD m t N))):=by
 rw[hN];obtain⟨A1,aV⟩:=ex1 (w.alloc (.cells #[.int .i64 b.ak,.int .i64 N,v2,v3,v4] 66));obtain⟨A2,bY⟩:=ex1 (A1.alloc (.cells (cW m) 86));obtain⟨A3,iI⟩:=ex1 (A2.alloc (.cells (tick t) 77));have eE:=snew aV;have mh:=snew2 bY eE
 have b1:aF A3 w.heap.size 66 #[.int .i64 b.ak,.int .i64 N,v2,v3,v4]:=by
  rw[<-iI];refine(ac.alloc [] _ _).box ?_ (by simp);rw[<-bY];refine(ac.alloc [] _ _).box ?_ (by simp);rw[<-aV];exact aF.new _ _ _
 have B2:Hid (aF A3 (w.heap.size+1) 86 (cW m)):=by
  rw[<-iI];refine(ac.alloc [] _ _).box ?_ (by simp);rw[<-bY,<-eE];exact aF.new _ _ _
 have B3:=bnew2 iI mh;have HW:=wnew3 aV bY iI;obtain⟨-,z1⟩:=b1.c2;simp only[cW,tick]at bY iI⊢;clear b1 hN;go_enter ZF107,Tryz.ntmps107
 go_wp2
 clear aV bY iI eE mh;go_loop [12,8,7] (fun i _ s=>∃k:Nat,k<=N/\i=.int .i64 k/\s=.int .i64 (iD m t k)) (fun i _ _=>N-(intOf i).toNat)
 case atStart=>exact⟨0,Nat.zero_le _,rfl,rfl⟩
 case round=>
  obtain⟨k,hk,rfl,rfl⟩:=hrel;by_cases az:k<N
  .have oY:k<4:=by omega
   have c2:A3.cell? ⟨w.heap.size+1,k,none⟩=some (.int .i64 (m k)):=B2.o.cell k (i6 oY _);obtain⟨j,hj⟩:∃j:Nat,m k=(j:Int):=⟨(m k).toNat,by have:=(hm k az).1;omega⟩
   have hj5:j<5:=by have:=(hm k az).2;omega
   rw[hj]at c2;have c3:A3.cell? ⟨w.heap.size+1+1,j,none⟩=some (.int .i64 (t j)):=B3.o.cell j (fJ hj5 _);have HS:Hid (iD m t (k+1)=wrap64 (iD m t k+t j)):=by show wrap64 (iD m t k+t (m k).toNat)=_;rw[hj];simp
   generalize iD m t k=s at*;generalize t j=tj at*;go_wp2
   go_round
   case rel=>exact⟨k+1,by omega,by go_num,by rw[HS.o]⟩
   case measure=>simp[intOf];omega
  .have e:k=N:=by omega
   subst e;go_wp2
   go_ret;exact⟨rfl,HW.o⟩
def cU (N:Nat) (t:Nat->Int) (x:fO):Bool:=decide (x.lo<=iD (aa x.parts) t N)&&decide (iD (aa x.parts) t N<=x.hi)
def aq (b:ao) (t:Nat->Int):Bool:=b.ab.all (cU b.places.toNat t)
theorem py (hm:b.parts.length<=5) (h:dp b l):∀i,i<b.places.toNat->0<=aa l i/\aa l i<5:=fun i hi=>by
 have hl:=h.len;have e:l[i]?=some (l[i]'(by omega)):=List.getElem?_eq_getElem (by omega);have h1:=h.range i _ (by omega) e;unfold aa;rw[e];simp only[Option.getD_some];omega
theorem FW (w:World) (v2 v3 v4 vl:Value) (b:ao) (x:fO) (g1 g2:Nat) (N:Nat) (hN:b.places=N) (zJ:N<=4) (t:Nat->Int) (hx:x.parts.length<=4) (hm:∀i,i<N->0<=aa x.parts i/\aa x.parts i<5)
 (h1:aF w g1 66 #[.int .i64 b.ak,.int .i64 b.places,v2,v3,v4]) (h2:aF w g2 77 (tick t)) (hl:an w vl x.parts):
 Calls ZP 142 #[.agg #[vl,.int .i64 x.lo,.int .i64 x.hi],ptr g1,ptr g2] w (cZ w fun r=>r=!cU N t x):=by
 obtain⟨la,lc,⟨rfl,ll,lm,ln,lr⟩,le⟩:=hl;have HL:Hid (an w (.slice la x.parts.length lc) x.parts):=⟨la,lc,⟨rfl,ll,lm,ln,lr⟩,le⟩
 clear ll lm ln lr le;obtain⟨A1,aV⟩:=ex1 (w.alloc (.cells #[.slice la x.parts.length lc,.int .i64 x.lo,.int .i64 x.hi] 50));have B1:=(bnew aV).o;have HW:=wnew aV;have C1:aF A1 g1 66 #[.int .i64 b.ak,.int .i64 b.places,v2,v3,v4]:=h1.below HW.o h1.lt;have C2:aF A1 g2 77 (tick t):=h2.below HW.o h2.lt;have y7:=C1.lt;have wL:=C2.lt;have zgS:=B1.lt;obtain⟨X0,X1,X2⟩:=B1.a3;obtain⟨Y0,Y1,Y2,Y3,Y4⟩:=C1.a5;obtain⟨Z0,Z1,Z2,Z3,Z4⟩:=C2.a5
 have c64:∀X:ai A1,Calls ZP 55 #[.slice la x.parts.length lc] X.1 (fun e gI=>e=.returned (.agg #[.int .i64 (aa x.parts 0),.int .i64 (aa x.parts 1),.int .i64 (aa x.parts 2),.int .i64 (aa x.parts 3)])/\∃Y:ai A1,gI=Y.1):=fun X=>
  (jm _ _ _ hx ((HL.o.later (Kp.of HW.o)).later X.kp)).mono fun e w' h=>⟨h.1,X.on h.2⟩
 have za5:∀X:ai A1,Calls ZP 107 #[.agg #[.int .i64 b.ak,.int .i64 b.places,v2,v3,v4],.agg #[.int .i64 (aa x.parts 0),.int .i64 (aa x.parts 1),.int .i64 (aa x.parts 2),.int .i64 (aa x.parts 3)],
  .agg #[.int .i64 (t 0),.int .i64 (t 1),.int .i64 (t 2),.int .i64 (t 3),.int .i64 (t 4)]] X.1 (fun e gI=>e=.returned (.int .i64 (iD (aa x.parts) t N))/\∃Y:ai A1,gI=Y.1):=fun X=>
  (FV _ _ _ _ _ N hN zJ _ _ hm).mono fun e w' h=>⟨h.1,X.on h.2⟩
 have c75:∀X:ai A1,Calls ZP 66 #[.int .i64 (iD (aa x.parts) t N),.int .i64 x.lo,.int .i64 x.hi] X.1 (fun e gI=>e=.returned (.bool (cU N t x))/\∃Y:ai A1,gI=Y.1):=fun X=>
  (bZ _ _ _ _).mono fun e w' h=>⟨h.1,X.same h.2⟩
 generalize iD (aa x.parts) t N=tk at*;generalize cU N t x=r at*;clear h1 h2 B1 C1 C2 hm hN;go_enter ZF142,Tryz.ntmps142
 go_wp2
 refine am (by kernel_rfl) (by kernel_rfl) ?_;repeat(go_big_quiet_step (first|(go_at_call 55;exact c64 _)|(go_at_call 107;exact za5 _)|(go_at_call 66;exact c75 _)))
 refine wpQuiet_nil ?_;rintro _ ⟨X,rfl⟩;go_wp2
 go_ret;exact cZ.mk rfl (HW.o.trans (X.2.mono HW.o.size))
def VA (f:fO->Bool) (l:List fO) (k:Nat):Prop:=∀x∈l.take k,f x=true
theorem xh (w:World) (v v2 v3 v4:Value) (b:ao) (g1 g2:Nat) (N:Nat) (hN:b.places=N) (zJ:N<=4) (t:Nat->Int) (l:List fO)
 (hl:∀x∈l,x.parts.length<=4/\∀i,i<N->0<=aa x.parts i/\aa x.parts i<5)
 (h1:aF w g1 66 #[.int .i64 b.ak,.int .i64 b.places,v2,v3,v4]) (h2:aF w g2 77 (tick t)) (h:eO w v l):
 Calls ZP 150 #[v,.func (.func 142) #[] #[ptr g1,ptr g2]] w (aW w fun r=>0<=r↔¬∀x∈l,cU N t x=true):=by
 obtain⟨a,c,h3,h4⟩:=h;have H:Hid (bH w v l.length a c/\_):=⟨h3,h4⟩
 have H1:=hid h1;have H2:=hid h2;have HT:=hid hl;have HN:=hid hN;obtain⟨rfl,l1,m1,n1,r1⟩:=h3;unfold maxLen at m1;clear h4 n1 r1 h1 h2 hl hN;go_enter ZF150,Tryz.ntmps150
 go_wp2
 go_loopw [8,5] (fun i j w1=>∃k:Nat,k<=l.length/\Hid (VA (cU N t) l k)/\i=.int .i64 k/\Hid (Below w.heap.size w w1)) (fun i _ _=>l.length-(intOf i).toNat)
 case atStart=>exact⟨0,Nat.zero_le _,fun x hx=>by simp at hx,rfl,Below.refl _ _⟩
 case round=>
  obtain⟨k,hk,hA,rfl,hB⟩:=hrel;by_cases az:k<l.length
  .obtain⟨⟨blk,off,sp⟩,x,rfl,hx,⟨vf,x0,x6⟩,x1,x2⟩:=H.o.1.elem H.o.2 az;obtain rfl:sp=none:=x0.1;have Xs:=x6;obtain⟨af,cf,hf,_⟩:=x6;obtain⟨rfl,lf,mf,_,_⟩:=hf;have y0:=(x0.later (Kp.of hB.o)).2;have y1:=(x1.later (Kp.of hB.o)).2;have y2:=(x2.later (Kp.of hB.o)).2;simp only[<-Nat.add_assoc]at y0 y1 y2;have nL:(k:Int)<(l.length:Int):=by omega
   have HX:=hid hx;have Tp:=HT.o x (List.mem_of_getElem? hx);have hC:=FW wr v2 v3 v4 _ b x g1 g2 N HN.o zJ t Tp.1 Tp.2 (H1.o.below hB.o H1.o.lt) (H2.o.below hB.o H2.o.lt) (Xs.later (Kp.of hB.o));clear x0 x1 x2 hx Tp Xs;cases hr:cU N t x with
   |true=>
    rw[hr]at hC;have HR:=hid hr;clear hr;go_wp2_with(go_at_call 142;refine hC.mono ?_;rintro e w1 ⟨⟨r,rfl,rfl⟩,bj⟩)
    go_round
    case rel=>
     refine⟨k+1,by omega,fun y hy=>?_,by go_num,hB.o.trans (bj.mono hB.o.size)⟩;rw[List.take_add_one,HX.o]at hy;rcases List.mem_append.1 hy with hy|hy
     .exact hA.o y hy
     .simp at hy;subst hy;exact HR.o
    case measure=>simp[intOf];omega
   |false=>
    rw[hr]at hC;have HR:=hid hr;clear hr;go_wp2_with(go_at_call 142;refine hC.mono ?_;rintro e w1 ⟨⟨r,rfl,rfl⟩,bj⟩)
    go_ret;refine aW.mk (r:=k) ⟨fun _ hh=>?_,fun _=>by omega⟩ (hB.o.trans (bj.mono hB.o.size));have:=hh x (List.mem_of_getElem? HX.o);rw[HR.o]at this;cases this
  .go_wp2
   go_ret;have e:k=l.length:=by omega
   subst e;refine aW.mk (r:=-1) ⟨fun h=>by omega,fun hh=>absurd (fun x hx=>hA.o x (by rw[List.take_length];exact hx)) hh⟩ hB.o
theorem xi (w:World) (v v2 v3 v4:Value) (b:ao) (g1 g2:Nat) (N:Nat) (hN:b.places=N) (zJ:N<=4) (t:Nat->Int) (l:List fO)
 (hl:∀x∈l,x.parts.length<=4/\∀i,i<N->0<=aa x.parts i/\aa x.parts i<5)
 (h1:aF w g1 66 #[.int .i64 b.ak,.int .i64 b.places,v2,v3,v4]) (h2:aF w g2 77 (tick t)) (h:eO w v l):
 Calls ZP 141 #[v,.func (.func 142) #[] #[ptr g1,ptr g2]] w (cZ w fun r=>r=!l.all (cU N t)):=by
 have hC:=xh w v v2 v3 v4 b g1 g2 N hN zJ t l hl h1 h2 h;clear hl h1 h2 h hN;go_enter ZF141,Tryz.ntmps141
 go_wp2_with(go_at_call 150;refine hC.mono ?_;rintro e w1 ⟨⟨r,rfl,hr⟩,bj⟩;replace hr:Hid (0<=r↔¬∀x∈l,cU N t x=true):=hr)
 go_ret;have hr:=hr.o;refine cZ.mk ?_ bj;cases hq:l.all (cU N t)with
 |true=>
  have h1:¬0<=r:=fun h=>(hr.1 h) (List.all_eq_true.1 hq)
  simp only[decide_eq_false h1,Bool.not_true]
 |false=>
  have h1:0<=r:=hr.2 fun h=>by rw[List.all_eq_true.2 h]at hq;cases hq
  simp only[decide_eq_true h1,Bool.not_false]
theorem FX (hv:Valid b):∀x∈b.ab,x.parts.length<=4/\∀i,i<b.places.toNat->0<=aa x.parts i/\aa x.parts i<5:=fun x hx=>by
 obtain⟨j,hj,e⟩:=List.getElem_of_mem hx;have h:=hv.ab j x hj (by rw[List.getElem?_eq_getElem hj,e]);have hp:=hv.places;have hl:=h.1.len;exact⟨by omega,py hv.parts.many.2 h.1⟩
theorem CG (w:World) (v:Value) (b:ao) (t:Nat->Int) (hb:au w v b) (hv:Valid b):
 Calls ZP 122 #[v,.agg (tick t)] w (bK w (.bool (aq b t))):=by
 obtain⟨N,hN⟩:∃N:Nat,b.places=N:=⟨b.places.toNat,by have:=hv.places;omega⟩
 have zJ:N<=4:=by have:=hv.places;omega
 have HT:Hid (∀x∈b.ab,x.parts.length<=4/\∀i,i<N->0<=aa x.parts i/\aa x.parts i<5):=(by have:=FX hv;rw[hN]at this;simpa using this:∀x∈b.ab,x.parts.length<=4/\∀i,i<N->0<=aa x.parts i/\aa x.parts i<5)
 have HA:Hid (aq b t=b.ab.all (cU N t)):=(by unfold aq;rw[hN];simp:aq b t=b.ab.all (cU N t))
 have HN:=hid hN;obtain⟨v2,v3,v4,rfl,⟨a2,c2,⟨rfl,_,_,_,_⟩,_⟩,⟨a3,c3,⟨rfl,_,_,_,_⟩,_⟩,h4⟩:=hb;have H4:=hid h4;obtain⟨a4,c4,⟨rfl,_,_,_,_⟩,_⟩:=h4;obtain⟨A1,aV⟩:=ex1 (w.alloc (.cells #[.int .i64 b.ak,.int .i64 b.places,.slice a2 b.parts.length c2,.slice a3 b.apart.length c3,.slice a4 b.ab.length c4] 66));obtain⟨A2,bY⟩:=ex1 (A1.alloc (.cells (tick t) 77));have eE:=snew aV;have b1:=(bnewk aV bY).o;have B2:=bnew2 bY eE;have HW:=wnew2 aV bY;obtain⟨-,-,-,-,z4⟩:=b1.c5;have hC:=xi A2 _ _ _ _ b w.heap.size (w.heap.size+1) N hN zJ t b.ab HT.o b1 B2.o (H4.o.later (Kp.of HW.o));simp only[tick]at bY⊢;clear b1 hN hv;go_enter ZF122,Tryz.ntmps122
 go_wp2_with(go_at_call 141;refine hC.mono ?_;rintro e w' ⟨⟨r,rfl,hr⟩,bj⟩)
 go_ret;refine⟨?_,HW.o.trans (bj.mono HW.o.size)⟩;rw[HA.o];rfl
theorem gG (hb:au w v b) (hv:Valid b):pw w v (aq b):=fun X t hX=>CG X v b t (hb.later (Kp.of hX)) hv
theorem xj (w:World) (b:ao) (v:Value) (a2:Option Addr) (c2:Nat) (v3 v4:Value) (ag:(Nat->Int)->Bool) (GB:v=.agg #[.int .i64 b.ak,.int .i64 b.places,.slice a2 b.parts.length c2,v3,v4]) (hb:au w v b) (hv:Valid b) (hc:jH w)
 (gl:Nat) (kA:∀X t,Below w.heap.size w X->Calls ZP 122 #[v,.agg (tick t)] X (bK X (.bool (ag t))))
 (bB:∀X,Below w.heap.size w X->Calls ZP 58 #[v,ptr gl] X (bK X (.int .i64 0))):
 Calls ZP 45 #[v,.func (.func 58) #[] #[ptr gl]] w (sN w b (.slice a2 b.parts.length c2) v3 v4 (aM b ag)):=
 lQ 58 ZC58 w b v a2 c2 v3 v4 ag GB hb hv hc #[ptr gl] kA bB
theorem t7 (w:World) (b:ao) (v:Value) (a2:Option Addr) (c2:Nat) (v3 v4:Value) (ag:(Nat->Int)->Bool) (GB:v=.agg #[.int .i64 b.ak,.int .i64 b.places,.slice a2 b.parts.length c2,v3,v4]) (hb:au w v b) (hv:Valid b) (hc:jH w)
 (gl:Nat) (kA:∀X t,Below w.heap.size w X->Calls ZP 122 #[v,.agg (tick t)] X (bK X (.bool (ag t))))
 (bB:∀X,Below w.heap.size w X->Calls ZP 52 #[v,ptr gl] X (bK X (.int .i64 0))):
 Calls ZP 45 #[v,.func (.func 52) #[] #[ptr gl]] w (sN w b (.slice a2 b.parts.length c2) v3 v4 (aM b ag)):=
 lQ 52 ZC52 w b v a2 c2 v3 v4 ag GB hb hv hc #[ptr gl] kA bB
theorem t8 (w:World) (b:ao) (v:Value) (a2:Option Addr) (c2:Nat) (v3 v4:Value) (ag:(Nat->Int)->Bool) (GB:v=.agg #[.int .i64 b.ak,.int .i64 b.places,.slice a2 b.parts.length c2,v3,v4]) (hb:au w v b) (hv:Valid b) (hc:jH w)
 (gl:Nat) (kA:∀X t,Below w.heap.size w X->Calls ZP 122 #[v,.agg (tick t)] X (bK X (.bool (ag t))))
 (bB:∀X,Below w.heap.size w X->Calls ZP 101 #[v,ptr gl] X (bK X (.int .i64 0))):
 Calls ZP 45 #[v,.func (.func 101) #[] #[ptr gl]] w (sN w b (.slice a2 b.parts.length c2) v3 v4 (aM b ag)):=
 lQ 101 ZC101 w b v a2 c2 v3 v4 ag GB hb hv hc #[ptr gl] kA bB
end Go.Proofs.Cz
