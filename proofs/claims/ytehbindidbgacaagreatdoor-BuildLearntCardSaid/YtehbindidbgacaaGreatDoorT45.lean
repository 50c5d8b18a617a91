/- A part. Conditions: none. -/
import Derived.Test.YtehbindidbgacaaGreatDoorT44
set_option linter.all false
set_option maxHeartbeats 8000000
set_option maxRecDepth 100000
namespace Go.Proofs.Cz
open Go.RowKit
variable {n:Nat} {u0 u1 u2 u3:Value} {w:World}
theorem nL {ops:Array Oper} {o:Oper} {a:Act} {K:Act->World->Prop} {Q:Exit->Act->World->Prop} {E:Prop} (IG:o.guard=none) (s x:Operand)
 (ho:o.op=.call {callee:=.builtin .append,args:=#[s,x],argTypes:=#[24,24]}) (base:Nat)
 (v:Value) (n:Nat) (xs:List Value) (hs:a.eval s=v) (bN:w.ownsRow base 65 3 v n xs) (f:Value) (m:Nat) (news:List Value) (hx:a.eval x=f) (hf:Raw w f m 3 news) (hn:n+m<=1000) (jT:base<=w.heap.size)
 (h:∀v' w',w'.ownsRow base 65 3 v' (n+m) (xs++news)->w.grownBy w' v.ownBlock->K (a.put o.dst v') w'):
 if Region.wanted o (yielded ops a.tmps)=true then Oper.wp ZP o a w K Q else E:=by
 obtain⟨i0,hi,lP,jr,kr⟩:=info_parts yz;obtain⟨oa,c,⟨rfl,hle,VI,Tv,_⟩,hl,h1,hc⟩:=hf;cases oa with
 |none=>
  have KP:=Tv rfl;subst KP;have BO:m=0:=by omega
  subst BO;have yY:news=[]:=zBL (by omega);subst yY;have hw:Region.wanted o (yielded ops a.tmps)=true:=by simp[Region.wanted,IG]
  rw[zAI hw];have aW:=run_append_owned_none (P:=ZP) (w:=w) base 24 o.type 65 i0 3 kG hi v n xs bN;have kW:a.eval x=.slice none 0 0:=by rw[hx]
  unfold Oper.wp execOp;simp only[ho,resolve,invoke,builtin,Sem.run_bind,Sem.run_pure,Result.andThen_ok,List.map_toArray,List.map_cons,List.map_nil,hs,kW,aW];exact h v w (by simpa using bN) ⟨rfl,rfl,rfl,zAC _,λ_ _ _=>rfl⟩
 |some ad=>
  refine dk IG s x 24 ho base 65 i0 (.agg #[.slice none 0 0,.int .i64 0,.int .i64 0]) 3 40 kG hi lP jr kr rfl (by decide) v n xs hs bN ad m c news hx hl (λj u hu=>?_) h1 (by unfold maxLen;omega) (by omega) jT h;have h3:=hc ad rfl j u hu;obtain⟨bb,bo,bs⟩:=ad;obtain rfl:bs=none:=h3.1;rw[show(⟨bb,bo,none⟩:Addr).add j=⟨bb,bo+j,none⟩ by unfold Addr.add;split<;>simp_all];exact h3.2
def eC (n:Nat) (u0 u1 u2 u3:Value) (w:World):Prop:=∃v,aA w n 26 #[u0,u1,u2,u3,v]
theorem eC.on {w':World} (h:eC n u0 u1 u2 u3 w) (hb:w'.heap[n]?=w.heap[n]?):eC n u0 u1 u2 u3 w':=by
 obtain⟨v,h⟩:=h;exact⟨v,hb.trans h⟩
theorem eC.lt (h:eC n u0 u1 u2 u3 w):n<w.heap.size:=by obtain⟨v,h⟩:=h;exact h.lt
theorem eC.alloc (h:eC n u0 u1 u2 u3 w) (b:Obj):eC n u0 u1 u2 u3 (w.alloc b):=h.on ((ab.alloc [] w b).block n h.lt (by simp))
theorem eC.set (h:eC n u0 u1 u2 u3 w) (v:Value):eC n u0 u1 u2 u3 (w.setCell ⟨n,4,none⟩ v):=by
 obtain⟨x,h⟩:=h;exact⟨v,h.set 4 v⟩
theorem Hj (a:Option Addr) (n m:Nat) (x y:Int):∀u∈ [Value.slice a n m,.int .i64 x,.int .i64 y],u.oneCell'=true:=λu hu=>by
 simp at hu;rcases hu with rfl|rfl|rfl<;>rfl
theorem bL.snoc {w0:World} {B:Nat} {e:TypeId} {v vt:Value} {l:List bH} {t:bH} {L4:List (bH×Value)} (h:w.ownsRow B e 3 v (l.length+1) (L4.flatMap cj++cj (t,vt))) (hl:L4.map Prod.fst=l)
 (hi:∀x∈L4,am w x.2 x.1.parts) (ht:am w vt t.parts):bL w v (l++[t]):=by
 have hlen:L4.length=l.length:=by rw[<-hl,zBY]
 have h5:=bL.mc (w:=w) (L:=L4++[(t,vt)]) (v:=v) (e:=e) (B:=B)
  (by rw[zBA,hlen,zCJ];simpa using h)
  (λx hx=>by
    rcases zDV.1 hx with hx|hx
    .exact hi x hx
    .obtain rfl:=zDO.1 hx;exact ht)
 rw[zCU,hl]at h5;exact h5
theorem Hk (w:World) (v vt:Value) (b:ap) (t:bH) (hb:ar w v b) (hm:b.aa.length<=20) (ht:am w vt t.parts):
 Calls ZP 29 #[v,.agg #[vt,.int .i64 t.lo,.int .i64 t.hi]] w (OG w (ck b t)):=by
 have HB:=hid hb;have HT:=hid ht;obtain⟨a2,c2,a3,c3,a4,c4,rfl⟩:=hb.dA;obtain⟨L4,Qo,Qp,Qq⟩:=wv hb;have H4:Hid (L4.map Prod.fst=b.aa/\Raw w (.slice a4 b.aa.length c4) b.aa.length 3 (L4.flatMap cj)/\∀x∈L4,am w x.2 x.1.parts):=⟨Qo,Qp,Qq⟩
 obtain⟨qO,qP,If,Yv⟩:=ht;obtain rfl:=If.eq;obtain⟨A1,aV⟩:=ex1 (w.alloc (.cells #[.int .i64 b.ac,.int .i64 b.places,.slice a2 b.parts.length c2,.slice a3 b.apart.length c3,.slice a4 b.aa.length c4] 26));obtain⟨A2,bc⟩:=ex1 (A1.alloc (.cells #[.slice qO t.parts.length qP,.int .i64 t.lo,.int .i64 t.hi] 65));obtain⟨A3,eE⟩:=ex1 (A2.alloc (.cells i7 26));obtain⟨A4,uM⟩:=ex1 (A3.alloc (.cells #[.int .i64 b.ac,.int .i64 b.places,.slice a2 b.parts.length c2,.slice a3 b.apart.length c3,.slice a4 b.aa.length c4] 26));have cS:=dt aV;have gV:=dt bc;have FP:=dt eE;rw[cS]at gV;rw[gV]at FP;have j0:=aF bc;have iR:=aF eE;have lN:=aF uM;have UY:aA A3 w.heap.size 26 #[.int .i64 b.ac,.int .i64 b.places,.slice a2 b.parts.length c2,.slice a3 b.apart.length c3,.slice a4 b.aa.length c4]:=(j0.trans' iR).box (bC aV) (by simp);have B1:Hid (aA A4 w.heap.size 26 #[.int .i64 b.ac,.int .i64 b.places,.slice a2 b.parts.length c2,.slice a3 b.apart.length c3,.slice a4 b.aa.length c4]):=(j0.trans' (iR.trans' lN)).box (bC aV) (by simp);have B2:Hid (aA A4 (w.heap.size+1) 65 #[.slice qO t.parts.length qP,.int .i64 t.lo,.int .i64 t.hi]):=by have:=(iR.trans' lN).box (bC bc) (by simp);rw[cS]at this;exact this
 have B3:Hid (aA A4 (w.heap.size+1+1) 26 i7):=by have:=lN.box (bC eE) (by simp);rw[gV]at this;exact this
 have B4:Hid (aA A4 (w.heap.size+1+1+1) 26 #[.int .i64 b.ac,.int .i64 b.places,.slice a2 b.parts.length c2,.slice a3 b.apart.length c3,.slice a4 b.aa.length c4]):=by have:=bC uM;rw[FP]at this;exact this
 have HW:Hid (Below w.heap.size w A4):=((aF aV).trans' (j0.trans' (iR.trans' lN))).below (by simp) (zAC _);have z0:=UY.cell 0 rfl;have z1:=UY.cell 1 rfl;have z2:=UY.cell 2 rfl;have z3:=UY.cell 3 rfl;have z4:=UY.cell 4 rfl;obtain⟨i0,wX,lP,jr,kr⟩:=info_parts yz;clear hb If Yv Qo Qp Qq j0 iR lN UY;go_enter ZF29,Tryz.ntmps29
 go_wp2_with fail
 clear z0 z1 z2 z3 z4 aV bc eE uM cS gV FP
 have Ip:Hid (∀X,ab [w.heap.size+1+1+1] A4 X->eC (w.heap.size+1+1+1) (.int .i64 b.ac) (.int .i64 b.places) (.slice a2 b.parts.length c2) (.slice a3 b.apart.length c3) X->
  (X.cell? ⟨w.heap.size,4,none⟩=some (.slice a4 b.aa.length c4)/\X.cell? ⟨w.heap.size+1,0,none⟩=some (.slice qO t.parts.length qP)/\X.cell? ⟨w.heap.size+1,1,none⟩=some (.int .i64 t.lo)/\X.cell? ⟨w.heap.size+1,2,none⟩=some (.int .i64 t.hi))/\
  ab [w.heap.size+1+1+1] A4 X/\eC (w.heap.size+1+1+1) (.int .i64 b.ac) (.int .i64 b.places) (.slice a2 b.parts.length c2) (.slice a3 b.apart.length c3) X):=λX h hm=>by
  have h1:=h.box B1.o (by simp;omega);have h2:=h.box B2.o (by simp);exact⟨⟨h1.cell 4 rfl,h2.cell 0 rfl,h2.cell 1 rfl,h2.cell 2 rfl⟩,h,hm⟩
 have tE:Hid (∀X,((X.cell? ⟨w.heap.size,4,none⟩=some (.slice a4 b.aa.length c4)/\X.cell? ⟨w.heap.size+1,0,none⟩=some (.slice qO t.parts.length qP)/\X.cell? ⟨w.heap.size+1,1,none⟩=some (.int .i64 t.lo)/\X.cell? ⟨w.heap.size+1,2,none⟩=some (.int .i64 t.hi))/\
  ab [w.heap.size+1+1+1] A4 X/\eC (w.heap.size+1+1+1) (.int .i64 b.ac) (.int .i64 b.places) (.slice a2 b.parts.length c2) (.slice a3 b.apart.length c3) X)->
  ab [w.heap.size+1+1+1] A4 X/\eC (w.heap.size+1+1+1) (.int .i64 b.ac) (.int .i64 b.places) (.slice a2 b.parts.length c2) (.slice a3 b.apart.length c3) X):=λ_ h=>h.2
 have jE:Hid (∀X,ab [w.heap.size+1+1+1] A4 X->Raw X (.slice a4 b.aa.length c4) b.aa.length 3 (L4.flatMap cj)):=λX h=>
  H4.o.2.1.later λj hj=>(h.block j (zAV hj HW.o.size) (by simp;omega)).trans (HW.o.block j hj)
 have DS:Hid (w.heap.size+1+1+1<A4.heap.size):=B4.o.lt
 have N8:Hid (0+b.aa.length<=1000/\b.aa.length+1<=maxLen/\(b.aa.length+1)*40<=140737488355328):=by
  refine⟨by omega,by unfold maxLen;omega,by omega⟩
 go_region_held3 (λX=>(X.cell? ⟨w.heap.size,4,none⟩=some (.slice a4 b.aa.length c4)/\X.cell? ⟨w.heap.size+1,0,none⟩=some (.slice qO t.parts.length qP)/\X.cell? ⟨w.heap.size+1,1,none⟩=some (.int .i64 t.lo)/\X.cell? ⟨w.heap.size+1,2,none⟩=some (.int .i64 t.hi))/\
  ab [w.heap.size+1+1+1] A4 X/\eC (w.heap.size+1+1+1) (.int .i64 b.ac) (.int .i64 b.places) (.slice a2 b.parts.length c2) (.slice a3 b.apart.length c3) X)
  (first
    |exact Ip.o _ (ab.of (Below.drewN (Below.refl _ A4) 1)) ⟨_,B4.o⟩
    |(have hh:=tE.o _ (by assumption);refine Ip.o _ ?_ ?_;exact hh.1.trans (ab.alloc [] _ _) (by simp);exact hh.2.alloc _)
    |exact Ip.o _ Yy.o ⟨_,OL.o⟩
    |exact Ip.o _ zel.o zem.o
    |(have hh:=tE.o _ (by assumption);refine Ip.o _ ?_ ?_;exact hh.1.trans' (ab.set _ (by simp) _);exact hh.2.set _))
  (first
    |(have hh:=tE.o _ (by assumption)
      refine nL rfl (.tmp 7) (.tmp 9) rfl A4.heap.size _ 0 [] rfl (wg (by first|exact oS rfl (by first|rfl|simp)|exact mE rfl (by first|rfl|simp)) (by first|exact zAC _|exact zCN _)) (.slice a4 b.aa.length c4) b.aa.length (L4.flatMap cj) rfl (jE.o _ hh.1) N8.o.1 hh.1.size ?_;intro v10 Dc Yz TK;have OM:Hid (Dc.ownsRow A4.heap.size 65 3 v10 b.aa.length (L4.flatMap cj)):=(by simpa using Yz:Dc.ownsRow A4.heap.size 65 3 v10 b.aa.length (L4.flatMap cj))
      have zel:Hid (ab [w.heap.size+1+1+1] A4 Dc):=ab.grow hh.1 TK (λk hk=>by cases hk;first|exact zAC _|exact zCN _|simp);have zem:Hid (eC (w.heap.size+1+1+1) (.int .i64 b.ac) (.int .i64 b.places) (.slice a2 b.parts.length c2) (.slice a3 b.apart.length c3) Dc):=hh.2.on (TK.block _ hh.2.lt (DI (by first|exact zES DS.o|exact zES (zEQ DS.o)|(have:=DS.o;simp<;>omega))));clear Yz hh)
    |(have hh:=tE.o _ (by assumption)
      refine dk rfl (.tmp 10) (.tmp 12) 24 rfl A4.heap.size 65 i0 (.agg #[.slice none 0 0,.int .i64 0,.int .i64 0]) 3 40 kG wX lP jr kr rfl (by decide) _ b.aa.length _ rfl (by first|exact OM.o|exact OM.o.alloc _) ⟨_,0,none⟩ 1 1 [.slice qO t.parts.length qP,.int .i64 t.lo,.int .i64 t.hi] rfl rfl
       (by first
         |exact ju (aA.new _ 65 _)
         |(refine ju (t:=65) ((TK.block _ ?bl ?bn).trans ?bx)
           case bx=>first|exact oS rfl (by first|rfl|simp)|exact mE rfl (by first|rfl|simp)
           case bl=>first|exact zBW _|exact zEQ (zBW _)|(simp<;>omega)
           case bn=>exact DI (by first|exact zFX _|exact(zFX _).symm|simp))) (Hj _ _ _ _ _) N8.o.2.1 N8.o.2.2 hh.1.size ?_
      intro v13 w13 TM YA;obtain⟨g13,TN,rfl⟩:=ownsRow_succ TM;have YB:=hid TM;have Yy:Hid (ab [w.heap.size+1+1+1] A4 w13):=ab.grow hh.1 YA (λk hk=>(au OM.o k hk).1);obtain⟨vm,hvm⟩:eC (w.heap.size+1+1+1) (.int .i64 b.ac) (.int .i64 b.places) (.slice a2 b.parts.length c2) (.slice a3 b.apart.length c3) w13:=hh.2.on (YA.block _ hh.2.lt (λe=>by have:=DS.o;have:=(au OM.o _ e.symm).1;omega));have OL:=hid hvm;have q13:=OL.o.cell 4 rfl;have f13:=OL.o.aL 4;clear TM hvm hh))
 all_goals
  obtain⟨wo,La⟩:=ex1 (w13.setCell ⟨w.heap.size+1+1+1,4,none⟩ (.slice (some ⟨g13,0,none⟩) (b.aa.length+1) TN));have UZ:aA wo (w.heap.size+1+1+1) 26 #[.int .i64 b.ac,.int .i64 b.places,.slice a2 b.parts.length c2,.slice a3 b.apart.length c3,.slice (some ⟨g13,0,none⟩) (b.aa.length+1) TN]:=by rw[<-La];exact OL.o.set 4 _
  have hKo:ab [w.heap.size+1+1+1] A4 wo:=by rw[<-La];exact Yy.o.trans' (ab.set _ (by simp) _)
  have hP6:aA wo (w.heap.size+1+1) 26 i7:=hKo.box B3.o (by simp)
  have HPO:Hid (wo.ownsRow A4.heap.size 65 3 (.slice (some ⟨g13,0,none⟩) (b.aa.length+1) TN) (b.aa.length+1) (L4.flatMap cj++[.slice qO t.parts.length qP,.int .i64 t.lo,.int .i64 t.hi])):=by
   rw[<-La];refine aR YB.o λj hj=>Below.heap_setCell _ _ _ _ ?_;have h1:=(au YB.o j hj).1;have h2:=DS.o;show j≠w.heap.size+1+1+1;omega
  have HKO:=hid hKo;have HP6:=hid hP6;have r0:=UZ.cell 0 rfl;have r1:=UZ.cell 1 rfl;have r2:=UZ.cell 2 rfl;have r3:=UZ.cell 3 rfl;have r4:=UZ.cell 4 rfl;obtain⟨⟨s0,s1,s2,s3,s4⟩,f0,f1,f2,f3,f4⟩:=qN hP6;rw[La];clear La UZ hKo hP6 q13 f13;go_wp2_with fail
  obtain⟨WF,jK⟩:=ex1 (((((wo.setCell ⟨w.heap.size+1+1,0,none⟩ (.int .i64 b.ac)).setCell ⟨w.heap.size+1+1,1,none⟩ (.int .i64 b.places)).setCell ⟨w.heap.size+1+1,2,none⟩ (.slice a2 b.parts.length c2)).setCell ⟨w.heap.size+1+1,3,none⟩ (.slice a3 b.apart.length c3)).setCell ⟨w.heap.size+1+1,4,none⟩ (.slice (some ⟨g13,0,none⟩) (b.aa.length+1) TN));obtain⟨oW,uh⟩:=K6 (.int .i64 b.ac) (.int .i64 b.places) (.slice a2 b.parts.length c2) (.slice a3 b.apart.length c3) (.slice (some ⟨g13,0,none⟩) (b.aa.length+1) TN) HP6.o;rw[jK]at oW uh⊢;have HKW:Hid (ab [w.heap.size+1+1+1,w.heap.size+1+1] A4 WF):=(HKO.o.mono (by simp)).trans' (uh.mono (by simp));have iw:Hid (Below w.heap.size w WF):=HW.o.trans (HKW.o.below (by simp;omega) HW.o.size)
  have Mc:Hid (ar WF (.agg #[.int .i64 b.ac,.int .i64 b.places,.slice a2 b.parts.length c2,.slice a3 b.apart.length c3,.slice (some ⟨g13,0,none⟩) (b.aa.length+1) TN]) (ck b t)):=by
   obtain⟨v2,v3,v4,e,h2,h3,h4⟩:=HB.o.later (Kp.of iw.o);simp only[Value.agg.injEq,zBU,zBR,zCB,zDB]at e;obtain⟨rfl,rfl,rfl⟩:=e;refine⟨_,_,_,rfl,h2,h3,?_⟩;exact bL.snoc (w0:=w) (vt:=.slice qO t.parts.length qP) (aR HPO.o λj hj=>uh.block j (au HPO.o j hj).2 (by have:=(au HPO.o j hj).1;have:=DS.o;simp;omega)) H4.o.1 (λx hx=>(H4.o.2.2 x hx).later (Kp.of iw.o)) (HT.o.later (Kp.of iw.o))
  have w0:=oW.cell 0 rfl;have gh:=oW.cell 1 rfl;have Hy:=oW.cell 2 rfl;have VB:=oW.cell 3 rfl;have w4':=oW.cell 4 rfl;clear oW uh jK s0 s1 s2 s3 s4 f0 f1 f2 f3 f4 r0 r1 r2 r3 r4;refine bodyPost_ret (v:=.agg #[.int .i64 b.ac,.int .i64 b.places,.slice a2 b.parts.length c2,.slice a3 b.apart.length c3,.slice (some ⟨g13,0,none⟩) (b.aa.length+1) TN]) ?_ rfl ⟨⟨_,rfl,Mc.o⟩,iw.o⟩;rw[eX rfl];go_simp
end Go.Proofs.Cz
namespace Go.Proofs.Cz
open Go.RowKit Go.Shelf
variable {l:List Int}
theorem jH:∀(n:Nat),n<=l.length->∀j,j<n->l.toArray[j]!∈Lib.compactUpTo l.toArray n
 |0,_,j,h=>by omega
 |n+1,hn,j,h=>by
  rw[Lib.compactUpTo_succ,zDV];by_cases e:j<n
  .exact .inl (jH n (by omega) j e)
  .obtain rfl:j=n:=by omega
   by_cases hk:Lib.keeps l.toArray j=true
   .right;rw[zAI hk];simp
   .left;have h1:¬(j=0\/l.toArray[j]!≠l.toArray[j-1]!):=by simpa [Lib.keeps]using hk
    have h2:l.toArray[j]! =l.toArray[j-1]!:=zBF λh=>h1 (.inr h);have h3:j≠0:=λh=>h1 (.inl h);rw[h2];exact jH j (by omega) (j-1) (by omega)
theorem Bl {x:Int}:x∈Lib.compact l↔x∈l:=by
 constructor
 .intro h;unfold Lib.compact Lib.compactUpTo at h;obtain⟨j,hj,rfl⟩:=zCL.1 h;have ou:=zEV.1 (zCX.1 hj).1;simp[ou]
 .intro h;obtain⟨j,hj,rfl⟩:=zCI h;have:=jH l.length (zAC _) j hj;simp[hj]at this;exact this
theorem qQ {L:List (Nat->Int)} {i:Nat} {c:Int}:c∈eF L i↔Lb L i c≠ []:=by
 unfold eF;rw[Bl];unfold lY;rw[List.mem_mergeSort,zCL];unfold Lb;constructor
 .rintro⟨t,ht,e⟩ h;have:=zFT.1 h t ht;simp[e]at this
 .intro h;obtain⟨t,ht⟩:=List.exists_mem_of_ne_nil _ h;have:=zCX.1 ht;exact⟨t,this.1,by simpa using this.2⟩
end Go.Proofs.Cz
namespace Go.Proofs.Cz
open Go.RowKit
variable {L L' S l:List (Nat->Int)} {N i k:Nat} {b b':ap} {c d:Int} {ks:List ((Nat->Int)->Int)} {m t0 x:Nat->Int} {o:List Int} {α:Type}
theorem yE {l:List Int} (hv:Valid b) (h:cr b l):∀i,i<b.places.toNat->0<=ak l i/\ak l i<b.parts.length:=λi hi=>by
 have hl:=h.len;have e:l[i]?=some (l[i]'(by omega)):=zAJ (by omega);have h1:=h.range i _ (by omega) e;unfold ak;rw[e];simp only[zAB];omega
def aQ:List ((Nat->Int)->Int)->(Nat->Int)->(Nat->Int)->Bool
 | [],_,_=>false
 |k::ks,x,y=>if k x<k y then true else if k x=k y then aQ ks x y else false
def cn (ks:List ((Nat->Int)->Int)) (t0:Nat->Int) (l:List (Nat->Int)) (k:Nat):Nat->Int:=(l.take k).foldl (λout x=>if aQ ks x out then x else out) t0
def dL (ks:List ((Nat->Int)->Int)):List (Nat->Int)->(Nat->Int)
 | []=>λ_=>0
 |t0::l=>cn ks t0 l l.length
theorem nM (hx:l[k]?=some x) (h:aQ ks x (cn ks t0 l k)=true):cn ks t0 l (k+1)=x:=by
 unfold cn at*;rw[zCA,hx,List.foldl_append];simp[h]
theorem mJ (hx:l[k]?=some x) (h:aQ ks x (cn ks t0 l k)=false):cn ks t0 l (k+1)=cn ks t0 l k:=by
 unfold cn at*;rw[zCA,hx,List.foldl_append];simp[h]
theorem kH:∀k:Nat,cn ks t0 l k∈t0::l
 |0=>by simp[cn]
 |k+1=>by
  cases hx:l[k]? with
  |none=>
   have e:cn ks t0 l (k+1)=cn ks t0 l k:=by unfold cn;rw[zCA,hx];simp
   rw[e];exact kH k
  |some x=>
   cases h:aQ ks x (cn ks t0 l k)with
   |true=>rw[nM hx h];exact zBH _ (zAX hx)
   |false=>rw[mJ hx h];exact kH k
theorem tQ (h:S≠ []):dL ks S∈S:=by
 cases S with
 |nil=>exact absurd rfl h
 |cons t0 l=>exact kH _
theorem ON {k:(Nat->Int)->Int} {y:Nat->Int} (h:k x=k y):aQ (k::ks) x y=aQ ks x y:=by
 show(if k x<k y then true else if k x=k y then aQ ks x y else false)=_;rw[zAH (by rw[h];exact Int.lt_irrefl _),zAI h]
def KOk (w:World) (S:List (Nat->Int)) (f:Value×((Nat->Int)->Int)):Prop:=
 (∃u,f.1=.func (.func 58) #[u] #[]/\∀X,Below w.heap.size w X->∀m∈S,Calls ZP 58 #[u,.agg #[.int .i64 (m 0),.int .i64 (m 1),.int .i64 (m 2),.int .i64 (m 3)]] X (di X (.int .i64 (f.2 m))))\/
 (∃u,f.1=.func (.func 59) #[u] #[]/\∀X,Below w.heap.size w X->∀m∈S,Calls ZP 59 #[u,.agg #[.int .i64 (m 0),.int .i64 (m 1),.int .i64 (m 2),.int .i64 (m 3)]] X (di X (.int .i64 (f.2 m))))\/
 ∃u,f.1=.func (.func 61) #[] #[u]/\∀X,Below w.heap.size w X->∀m∈S,Calls ZP 61 #[.agg #[.int .i64 (m 0),.int .i64 (m 1),.int .i64 (m 2),.int .i64 (m 3)],u] X (di X (.int .i64 (f.2 m)))
theorem Lj (w:World) (v:Value) (S:List (Nat->Int)) (hS:bB 4 w v S) (bE:S≠ []) (hlen:S.length<=1000) (fs:List (Value×((Nat->Int)->Int))) (hfs:∀f∈fs,KOk w S f) (gn:Nat) (hn:aA w gn 109 (fs.map (·.1)).toArray) (hr:fs.length<=2):
 Calls ZP 57 #[v,.slice (some ⟨gn,0,none⟩) fs.length fs.length] w (di w (.agg (bP (dL (fs.map (·.2)) S)))):=by
 obtain⟨t0,l,rfl⟩:∃t0 l,S=t0::l:=by cases S with
  |nil=>exact absurd rfl bE
  |cons a l=>exact⟨a,l,rfl⟩
 have Xz:=hid hfs;have Yx:=hid hn;obtain⟨r,QY⟩:=ex1 (fs.length);obtain⟨ks,hks⟩:=ex1 (fs.map (·.2));have HRR:Hid (fs.length=r/\fs.map (·.2)=ks):=⟨QY,hks⟩
 rw[QY]at hr;rw[QY,hks];obtain⟨a,cap,hs,he⟩:=hS;obtain⟨⟨blk,off,sp⟩,t1,rfl,hx,rG⟩:=hs.elem he (k:=0) (by simp);simp at hx;subst hx;obtain rfl:sp=none:=(rG 0 (by omega)).1;have HE:Hid (bA w v (t0::l).length (some ⟨blk,off,none⟩) cap/\∀b,some (⟨blk,off,none⟩:Addr)=some b->∀j t,(t0::l)[j]?=some t->∀r,r<4->At w b (j*4+r) (.int .i64 (t r))):=⟨hs,he⟩
 obtain⟨rfl,hle,i9,_,_⟩:=hs;unfold maxLen at i9;simp only[zBS]at hle hlen⊢;obtain⟨A1,aV⟩:=ex1 (w.alloc (.cells #[.int .i64 0,.int .i64 0,.int .i64 0,.int .i64 0] 107));obtain⟨A2,bc⟩:=ex1 (A1.alloc (.cells (bP t0) 107));have cS:=snew aV;have H1:=(wnew aV).o;have B1:=bnewk aV bc;have B2:=bnew2 bc cS;have HW:=wnew2 aV bc;have r0:A1.cell? ⟨blk,off,none⟩=some (.int .i64 (t0 0)):=by simpa using((rG 0 (by omega)).later (Kp.of H1)).2
 have r1:A1.cell? ⟨blk,off+1,none⟩=some (.int .i64 (t0 1)):=by simpa using((rG 1 (by omega)).later (Kp.of H1)).2
 have r2:A1.cell? ⟨blk,off+2,none⟩=some (.int .i64 (t0 2)):=by simpa using((rG 2 (by omega)).later (Kp.of H1)).2
 have r3:A1.cell? ⟨blk,off+3,none⟩=some (.int .i64 (t0 3)):=by simpa using((rG 3 (by omega)).later (Kp.of H1)).2
 simp only[bP]at bc;have L1:((l.length+1:Nat):Int)=(l.length:Int)+1:=by omega
 clear rG he bE hn H1 hfs QY hks;go_enter ZF57,Tryz.ntmps57
 by_cases hc1:cap=1
 .have yY:l=[]:=zBL (by omega);subst yY;go_wp2
  clear aV bc cS r0 r1 r2 r3;go_loopw [18,7,9,10,11] (λi _ _ _ _ wr=>i=.int .i64 0/\Hid (aA wr (w.heap.size+1) 107 (bP (cn ks t0 [] 0)))/\Hid (ab [w.heap.size+1] A2 wr)) (λ_ _ _ _ _ _=>0)
  case atStart=>exact⟨rfl,B2.o,ab.refl _ _⟩
  case round=>
   obtain⟨rfl,uf,v6⟩:=hrel;have BR:aA wr w.heap.size 107 #[.int .i64 0,.int .i64 0,.int .i64 0,.int .i64 0]:=v6.o.box B1.o (by simp);obtain⟨p0,p1,p2,p3⟩:=BR.c4;have f0:=BR.aL 0;have f1:=BR.aL 1;have f2:=BR.aL 2;have f3:=BR.aL 3;obtain⟨bb,zf⟩:=ex1 (cn ks t0 [] 0);rw[zf]at uf;obtain⟨q0,q1,q2,q3⟩:=uf.o.c4;have UT:Hid (dL ks (t0:: [])=bb):=(zf:dL ks (t0:: [])=bb)
   clear zf;go_wp2
   obtain⟨WF,jK⟩:=ex1 ((((wr.setCell ⟨w.heap.size,0,none⟩ (.int .i64 (bb 0))).setCell ⟨w.heap.size,1,none⟩ (.int .i64 (bb 1))).setCell ⟨w.heap.size,2,none⟩ (.int .i64 (bb 2))).setCell ⟨w.heap.size,3,none⟩ (.int .i64 (bb 3)));have iw:aA WF w.heap.size 107 #[.int .i64 (bb 0),.int .i64 (bb 1),.int .i64 (bb 2),.int .i64 (bb 3)]:=by rw[<-jK];exact(((BR.set 0 _).set 1 _).set 2 _).set 3 _
   have rQ:ab [w.heap.size] wr WF:=by rw[<-jK];exact(((ab.set wr (by simp) _).trans' (ab.set _ (by simp) _)).trans' (ab.set _ (by simp) _)).trans' (ab.set _ (by simp) _)
   have tA:Below w.heap.size w WF:=(HW.o.trans (v6.o.below (by simp) HW.o.size)).trans (rQ.below (by simp) (by have:=v6.o.size;have:=HW.o.size;omega));obtain⟨u0,u1,u2,u3⟩:=iw.c4;rw[jK];refine bodyPost_ret (v:=.agg (bP (dL ks (t0:: [])))) ?_ rfl ⟨rfl,tA⟩;rw[eX rfl,UT.o];go_simp;simp[bP]
 .go_wp2
  clear aV bc cS r0 r1 r2 r3;go_loopw [18,7,9,10,11] (λi _ _ _ _ wr=>∃k:Nat,k<=l.length/\i=.int .i64 k/\Hid (aA wr (w.heap.size+1) 107 (bP (cn ks t0 l k)))/\Hid (ab [w.heap.size+1] A2 wr)) (λi _ _ _ _ _=>l.length-(intOf i).toNat)
  case atStart=>exact⟨0,zAR _,rfl,B2.o,ab.refl _ _⟩
  case round=>
   obtain⟨k,hk,rfl,uf,v6⟩:=hrel;by_cases az:k<l.length
   .have hx:l[k]?=some l[k]:=zAJ az;obtain⟨x,IX⟩:=ex1 (l[k]);rw[IX]at hx;have HX:=hid hx;have HXM:Hid (x∈t0::l):=zBH _ (zAX hx);obtain⟨y,hy⟩:=ex1 (cn ks t0 l k);have HYM:Hid (y∈t0::l):=by rw[<-hy];exact kH k
    have HY:=hid hy;rw[hy]at uf;obtain⟨wo,rfl⟩:∃wo,wo=wr:=⟨wr,rfl⟩
    have bd:∀r,r<4->wo.cell? ⟨blk,off+4+k*4+r,none⟩=some (.int .i64 (x r)):=λr hr=>by
     have h1:=(HE.o.2 _ rfl (k+1) x (by simpa using hx) r hr)
     have h2:=h1.later (Kp.of HW.o);have h3:=h2.lt;have h4:=h2.2;have h5:=h1.lt;rw[show off+4+k*4+r=off+((k+1)*4+r) by omega];exact(World.cell?_of_block (w:=A2) (a:=⟨blk,off+((k+1)*4+r),none⟩) (v6.o.block blk h3 (by simp at h5⊢;omega))).trans h4
    have s0:=bd 0 (by omega);have s1:=bd 1 (by omega);have s2:=bd 2 (by omega);have s3:=bd 3 (by omega);simp only[zDH]at s0;obtain⟨wt,BJ⟩:=ex1 (wo.alloc (.cells (bP x) 107));have Ou:=knew BJ;have BL:=bnew BJ;have HBt:Hid (aA wt (w.heap.size+1) 107 (bP y)):=Ou.box uf.o (by simp);have UO:Hid (ab [w.heap.size+1] A2 wt):=v6.o.trans (O':=[]) Ou (by simp);have UP:Hid (Below w.heap.size w wt):=HW.o.trans (UO.o.below (by simp) HW.o.size);have zkX:w.heap.size+1<wo.heap.size:=uf.o.lt;have hgn:gn<w.heap.size:=Yx.o.lt;simp only[bP]at BJ;have j0:(k:Int)<(l.length:Int):=by omega
    have DB:=hid az;clear bd hx IX Ou hy az hk;go_wp2
    clear BJ s0 s1 s2 s3;go_loopw [24,9,10,11] (λj _ _ _ wr=>∃jj:Nat,jj<=r/\j=.int .i64 jj/\Hid (aQ ks x y=aQ ((fs.drop jj).map (·.2)) x y)/\Hid (aA wr (w.heap.size+1) 107 (bP y))/\Hid (Below wt.heap.size wt wr)) (λj _ _ _ _=>r-(intOf j).toNat)
    case atStart=>exact⟨0,zAR _,rfl,by rw[List.drop_zero,HRR.o.2];rfl,HBt.o,Below.refl _ _⟩
    case round=>
     obtain⟨jj,hjj,rfl,hEQ,YC,U0⟩:=hrel;have Qj:=hidb BL U0.o;have mP:=UP.t U0.o;have NB:aA wr gn 109 (fs.map (·.1)).toArray:=Yx.o.below mP.o Yx.o.lt;by_cases hj:jj<r
     .have ou:(jj:Int)<(r:Int):=by omega
      have Pp:jj<fs.length:=by rw[HRR.o.1];exact hj
      have HJ:Hid (jj<r):=hj;obtain⟨⟨fv,kf⟩,Uk⟩:∃f,fs[jj]=f:=⟨_,rfl⟩
      have it:=Xz.o fs[jj] (List.getElem_mem Pp);rw[Uk]at it;have n0:wr.cell? ⟨gn,jj,none⟩=some fv:=NB.cell jj (by simp[Pp,Uk])
      have HLS:Hid (aQ ks x y=aQ (kf::(fs.drop (jj+1)).map (·.2)) x y):=by
       refine hEQ.o.trans ?_;rw[List.drop_eq_getElem_cons Pp,Uk];rfl
      obtain⟨kx,QH⟩:=ex1 (kf x);obtain⟨ky,hky⟩:=ex1 (kf y);have Lk:Hid (kf x=kx/\kf y=ky):=⟨QH,hky⟩
      obtain⟨X0,X1,X2,X3⟩:=Qj.o.a4;obtain⟨Y0,Y1,Y2,Y3⟩:=YC.o.a4;clear NB hEQ hj Pp Uk;rcases it with⟨u,rfl,hc⟩|⟨u,rfl,hc⟩|⟨u,rfl,hc⟩
      all_goals
       have cx:∀X:aj wr,Calls ZP _ _ X.1 (λe iu=>e=.returned (.int .i64 kx)/\∃Y:aj wr,iu=Y.1):=λX=>(hc X.1 (mP.o.trans (X.2.mono mP.o.size)) x HXM.o).mono λe w' h=>⟨by rw[h.1,<-QH],X.on h.2⟩
       have cy:∀X:aj wr,Calls ZP _ _ X.1 (λe iu=>e=.returned (.int .i64 ky)/\∃Y:aj wr,iu=Y.1):=λX=>(hc X.1 (mP.o.trans (X.2.mono mP.o.size)) y HYM.o).mono λe w' h=>⟨by rw[h.1,<-hky],X.on h.2⟩
       clear hc QH hky;rcases Int.lt_trichotomy kx ky with h3|h3|h3
       .have YD:Hid (aQ ks x y=true):=(by rw[HLS.o];unfold aQ;rw[zAI (by rw[Lk.o.1,Lk.o.2];exact h3)]:aQ ks x y=true)
        have h4:¬kx=ky:=by omega
        have h5:(kx==ky)=false:=by simp;omega
        clear Lk;go_wp2_with fail
        refine ao (by kernel_rfl) (by kernel_rfl) ?_;repeat(go_big_quiet_step (first|(go_at_call 58;with_reducible exact cx _)|(go_at_call 58;with_reducible exact cy _)|(go_at_call 59;with_reducible exact cx _)|(go_at_call 59;with_reducible exact cy _)|(go_at_call 61;with_reducible exact cx _)|(go_at_call 61;with_reducible exact cy _)))
        refine wpQuiet_nil ?_;rintro _ ⟨X,rfl⟩;have YE:=U0.t X.2;have OO:=hidb YC X.2;have x0:=X0 X;have x1:=X1 X;have x2:=X2 X;have x3:=X3 X;have y0:=Y0 X;have y1:=Y1 X;have y2:=Y2 X;have y3:=Y3 X;have g0:=OO.o.aL 0;have g1:=OO.o.aL 1;have g2:=OO.o.aL 2;have g3:=OO.o.aL 3;clear X0 X1 X2 X3 Y0 Y1 Y2 Y3 cx cy n0;go_wp2
        obtain⟨WS,hWS⟩:=ex1 ((((X.1.setCell ⟨w.heap.size+1,0,none⟩ (.int .i64 (x 0))).setCell ⟨w.heap.size+1,1,none⟩ (.int .i64 (x 1))).setCell ⟨w.heap.size+1,2,none⟩ (.int .i64 (x 2))).setCell ⟨w.heap.size+1,3,none⟩ (.int .i64 (x 3)));have hBS:aA WS (w.heap.size+1) 107 (bP x):=by rw[<-hWS];exact(((OO.o.set 0 _).set 1 _).set 2 _).set 3 _
        have hKS:ab [w.heap.size+1] X.1 WS:=by rw[<-hWS];exact(((ab.set X.1 (by simp) _).trans' (ab.set _ (by simp) _)).trans' (ab.set _ (by simp) _)).trans' (ab.set _ (by simp) _)
        rw[hWS];have vb:=DB.o;refine⟨⟨k+1,by omega,by go_num,?_,(UO.o.trans (O':=[]) (ab.of YE.o) (by simp)).trans' hKS⟩,by simp[intOf];omega⟩;rw[nM HX.o (by rw[HY.o];exact YD.o)];exact hBS
       .have H3E:Hid (kx=ky):=h3;have zew:Hid (aQ ks x y=aQ ((fs.drop (jj+1)).map (·.2)) x y):=HLS.o.trans (ON (Lk.o.1.trans (H3E.o.trans Lk.o.2.symm)));have h4:kx=ky:=h3;clear h3;subst h4;clear Lk H3E;go_wp2_with fail
        refine ao (by kernel_rfl) (by kernel_rfl) ?_;repeat(go_big_quiet_step (first|(go_at_call 58;with_reducible exact cx _)|(go_at_call 58;with_reducible exact cy _)|(go_at_call 59;with_reducible exact cx _)|(go_at_call 59;with_reducible exact cy _)|(go_at_call 61;with_reducible exact cx _)|(go_at_call 61;with_reducible exact cy _)))
        refine wpQuiet_nil ?_;rintro _ ⟨X,rfl⟩;have YE:=U0.t X.2;have OO:=hidb YC X.2;clear X0 X1 X2 X3 Y0 Y1 Y2 Y3 cx cy n0;go_wp2
        have zb:=HJ.o;refine⟨⟨jj+1,by omega,by go_num,zew.o,OO.o,YE.o⟩,by simp[intOf];omega⟩
       .have YD:Hid (aQ ks x y=false):=(by rw[HLS.o];unfold aQ;rw[zAH (by rw[Lk.o.1,Lk.o.2];omega),zAH (by rw[Lk.o.1,Lk.o.2];omega)]:aQ ks x y=false)
        have h4:¬kx=ky:=by omega
        have h5:(kx==ky)=false:=by simp;omega
        have h6:¬kx<ky:=by omega
        clear Lk;go_wp2_with fail
        refine ao (by kernel_rfl) (by kernel_rfl) ?_;repeat(go_big_quiet_step (first|(go_at_call 58;with_reducible exact cx _)|(go_at_call 58;with_reducible exact cy _)|(go_at_call 59;with_reducible exact cx _)|(go_at_call 59;with_reducible exact cy _)|(go_at_call 61;with_reducible exact cx _)|(go_at_call 61;with_reducible exact cy _)))
        refine wpQuiet_nil ?_;rintro _ ⟨X,rfl⟩;have YE:=U0.t X.2;have OO:=hidb YC X.2;clear X0 X1 X2 X3 Y0 Y1 Y2 Y3 cx cy n0;go_wp2
        have vb:=DB.o;refine⟨⟨k+1,by omega,by go_num,?_,UO.o.trans (O':=[]) (ab.of YE.o) (by simp)⟩,by simp[intOf];omega⟩;rw[mJ HX.o (by rw[HY.o];exact YD.o),HY.o];exact OO.o
     have hjr:jj=r:=by omega
     subst hjr;have YD:Hid (aQ ks x y=false):=(by rw[hEQ.o,List.drop_eq_nil_of_le (by rw[HRR.o.1];exact zAC _)];rfl:aQ ks x y=false)
     clear NB hEQ;go_wp2
     have vb:=DB.o;refine⟨⟨k+1,by omega,by go_num,?_,UO.o.trans (O':=[]) (ab.of U0.o) (by simp)⟩,by simp[intOf];omega⟩;rw[mJ HX.o (by rw[HY.o];exact YD.o),HY.o];exact YC.o
   .have e:k=l.length:=by omega
    subst e;have BR:aA wr w.heap.size 107 #[.int .i64 0,.int .i64 0,.int .i64 0,.int .i64 0]:=v6.o.box B1.o (by simp);obtain⟨p0,p1,p2,p3⟩:=BR.c4;have f0:=BR.aL 0;have f1:=BR.aL 1;have f2:=BR.aL 2;have f3:=BR.aL 3;obtain⟨bb,zf⟩:=ex1 (cn ks t0 l l.length);rw[zf]at uf;obtain⟨q0,q1,q2,q3⟩:=uf.o.c4;have UT:Hid (dL ks (t0::l)=bb):=(zf:dL ks (t0::l)=bb)
    clear zf;go_wp2
    obtain⟨WF,jK⟩:=ex1 ((((wr.setCell ⟨w.heap.size,0,none⟩ (.int .i64 (bb 0))).setCell ⟨w.heap.size,1,none⟩ (.int .i64 (bb 1))).setCell ⟨w.heap.size,2,none⟩ (.int .i64 (bb 2))).setCell ⟨w.heap.size,3,none⟩ (.int .i64 (bb 3)));have iw:aA WF w.heap.size 107 #[.int .i64 (bb 0),.int .i64 (bb 1),.int .i64 (bb 2),.int .i64 (bb 3)]:=by rw[<-jK];exact(((BR.set 0 _).set 1 _).set 2 _).set 3 _
    have rQ:ab [w.heap.size] wr WF:=by rw[<-jK];exact(((ab.set wr (by simp) _).trans' (ab.set _ (by simp) _)).trans' (ab.set _ (by simp) _)).trans' (ab.set _ (by simp) _)
    have tA:Below w.heap.size w WF:=(HW.o.trans (v6.o.below (by simp) HW.o.size)).trans (rQ.below (by simp) (by have:=v6.o.size;have:=HW.o.size;omega));obtain⟨u0,u1,u2,u3⟩:=iw.c4;rw[jK];refine bodyPost_ret (v:=.agg (bP (dL ks (t0::l)))) ?_ rfl ⟨rfl,tA⟩;rw[eX rfl,UT.o];go_simp;simp[bP]
theorem Hl (w:World) (v:Value) (S:List (Nat->Int)) (hS:bB 4 w v S) (bE:S≠ []) (hlen:S.length<=1000) (bk:Value) (kf0:(Nat->Int)->Int) (gn:Nat) (hn:aA w gn 109 #[.func (.func 59) #[bk] #[]])
 (qT:∀X,Below w.heap.size w X->∀m∈S,Calls ZP 59 #[bk,.agg (bP m)] X (di X (.int .i64 (kf0 m)))):
 Calls ZP 57 #[v,.slice (some ⟨gn,0,none⟩) 1 1] w (di w (.agg (bP (dL [kf0] S)))):=
 Lj w v S hS bE hlen [(_,kf0)] (λf h=>by cases h with|head=>exact .inr (.inl ⟨bk,rfl,qT⟩)|tail _ h=>cases h) gn hn (by simp)
def eR (b:ap) (m:Nat->Int):Int:=eB b m b.places.toNat
def Qw (b:ap) (m:Nat->Int):Int:=TB b.places.toNat m
def Ll (w:World) (b:ap) (L:List (Nat->Int)) (ks:List ((Nat->Int)->Int)) (val:(Nat->Int)->Int) (e:Ending) (w':World):Prop:=
 ((L=[]/\e=.returned (.tuple #[.slice none 0 0,.int .i64 0,.int .i64 9]))\/(L≠ []/\aS b L=[]/\e=.returned (.tuple #[.slice none 0 0,.int .i64 0,.int .i64 8]))\/
  (L≠ []/\aS b L≠ []/\∃v,e=.returned (.tuple #[v,.int .i64 (val (dL ks (aS b L))),.int .i64 0])/\am w' v (dY b.places.toNat (dL ks (aS b L)))))/\Below w.heap.size w w'
theorem tR (h:m∈aS b L):m∈aB b:=(zCX.1 h).1
theorem m8 (hv:Valid b) (h:m∈aB b):∀i,i<b.places.toNat->0<=m i/\m i<b.parts.length:=by
 rw[iY]at h;obtain⟨o,ho,rfl⟩:=zCL.1 h;exact yE hv (wi hv ho)
theorem Lm (hv:Valid b) (L:List (Nat->Int)):(aS b L).length<=625:=zAP (zDP _ _) (dX hv)
theorem results_tmp3 {fn:Func} {t u x:Tmp} (h:fn.results=#[.tmp t,.tmp u,.tmp x]) (tmps:Array Value) (P:Program) (w:World):(results fn tmps).run P w=.ok (.tuple #[tmps.getD t undef,tmps.getD u undef,tmps.getD x undef]) w:=by
 simp only[results,h];simp[Sem.run_bind,Result.andThen]
theorem oY (w:World) (v:Value) (b:ap) (ag:(Nat->Int)->Bool) (hb:ar w v b) (hv:Valid b) (hc:iv w) (iQ:kE w v ag):Calls ZP 15 #[v] w (Ll w b (aq b ag) [eR b] (eR b)):=by
 have HB:=hid hb;have HV:Hid (Valid b):=hv;have HC:Hid (iv w):=hc;have qH:Hid (b.places=(b.places.toNat:Int)):=(by have:=hv.places;omega:b.places=(b.places.toNat:Int))
 have HN4:Hid (1<=b.places.toNat/\b.places.toNat<=4):=(by have:=hv.places;omega:1<=b.places.toNat/\b.places.toNat<=4)
 obtain⟨a2,c2,a3,c3,a4,c4,rfl⟩:=hb.dA;have AO:=hid iQ;obtain⟨A1,aV⟩:=ex1 (w.alloc (.cells #[.int .i64 b.ac,.int .i64 b.places,.slice a2 b.parts.length c2,.slice a3 b.apart.length c3,.slice a4 b.aa.length c4] 26));have B1:=bnew aV;have HW:=wnew aV;obtain⟨z0,z1,z2,z3,z4⟩:=B1.o.c5;clear hb hv hc iQ;go_enter ZF15,Tryz.ntmps15
 go_wp2_with fail
 refine(AU A1 _ b ag a2 c2 _ _ rfl (HB.o.later (Kp.of HW.o)) HV.o (HC.o.later HW.o) (λX t hX=>AO.o X t (HW.o.trans (hX.mono HW.o.size)))).mono ?_;rintro e w1 ⟨pl,bi⟩;have dh:=HW.t bi;clear bi z0 z1 z2 z3 z4 aV;rcases pl with⟨hL,rfl⟩|⟨hL,hS,rfl⟩|⟨hL,hS,a,c,vs,rfl,hva,zy,yc,hfs⟩
 .have HL:=hid hL;clear hL;go_wp2
  refine bodyPost_ret (v:=.tuple #[.slice none 0 0,.int .i64 0,.int .i64 9]) ?_ rfl ⟨.inl ⟨HL.o,rfl⟩,dh.o.alloc dh.o.size _⟩;rw[results_tmp3 rfl];rfl
 .have HL:Hid (aq b ag≠ []/\aS b (aq b ag)=[]):=⟨hL,hS⟩
  clear hL hS;go_wp2
  refine bodyPost_ret (v:=.tuple #[.slice none 0 0,.int .i64 0,.int .i64 8]) ?_ rfl ⟨.inr (.inl ⟨HL.o.1,HL.o.2,rfl⟩),dh.o.alloc dh.o.size _⟩;rw[results_tmp3 rfl];rfl
 .have HL:Hid (aq b ag≠ []/\aS b (aq b ag)≠ []):=⟨hL,hS⟩
  obtain⟨L,yt⟩:=ex1 (aq b ag);have Fh:=hid yt;rw[yt]at hva zy yc hS;obtain⟨sa,sc,rfl,_,_⟩:=zy.slice;have HVS:=hid zy;have HS:=hid hS;obtain⟨W2,rS⟩:=ex1 (w1.alloc (.cells #[.int .i64 b.ac,.int .i64 b.places,.slice a2 b.parts.length c2,.slice a3 b.apart.length c3,.slice a4 b.aa.length c4,.slice a (aq b ag).length c] 93));obtain⟨W3,hW3⟩:=ex1 (W2.alloc (.cells #[.func (.func 59) #[.agg #[.int .i64 b.ac,.int .i64 b.places,.slice a2 b.parts.length c2,.slice a3 b.apart.length c3,.slice a4 b.aa.length c4]] #[]] 109));have gV:=snew rS;have j0:=knew rS;have iR:=knew hW3;have D2:=(bnew rS).o;have D3:Hid (aA W3 w1.heap.size 93 #[.int .i64 b.ac,.int .i64 b.places,.slice a2 b.parts.length c2,.slice a3 b.apart.length c3,.slice a4 b.aa.length c4,.slice a (aq b ag).length c]):=iR.box D2 (by simp);have DN:=bnew2 hW3 gV;have H13:Hid (Below w1.heap.size w1 W3):=(j0.trans iR (by simp)).below (by simp) (zAC _);have fL:=dh.t H13.o;have Fk:=Hl W3 _ (aS b L) (HVS.o.later (Kp.of H13.o)) HS.o (by have:=Lm HV.o L;omega) (.agg #[.int .i64 b.ac,.int .i64 b.places,.slice a2 b.parts.length c2,.slice a3 b.apart.length c3,.slice a4 b.aa.length c4]) (eR b) (w1.heap.size+1) DN.o (λX hX m hm=>by simpa [Qw,eR]using(Bc X _ _ _ b (HB.o.later (Kp.of (fL.o.trans (hX.mono fL.o.size)))) HV.o b.places.toNat qH.o m (m8 HV.o (tR hm))));obtain⟨mm,GL⟩:=ex1 (dL [eR b] (aS b L));have UM:=hid GL;have HMS:Hid (mm∈aS b L):=(by rw[<-GL];exact tQ HS.o:mm∈aS b L)
  rw[GL]at Fk;clear hL hS yt hva zy yc hfs GL j0 iR;obtain⟨z0,z1,z2,z3,z4⟩:=D2.c5;clear D2;simp only[bP]at Fk;go_wp2_with fail
  refine Fk.mono ?_;rintro e w4 ⟨rfl,qB⟩;have H34:=hid qB;have mz:=fL.t qB;clear qB Fk z0 z1 z2 z3 z4 rS hW3 gV;obtain⟨W5,hW5⟩:=ex1 (w4.alloc (.cells #[.int .i64 (mm 0),.int .i64 (mm 1),.int .i64 (mm 2),.int .i64 (mm 3)] 107));have DM:=bnew hW5;have H45:=wnew hW5;have rR:=mz.t H45.o;have D5:Hid (aA W5 w1.heap.size 93 #[.int .i64 b.ac,.int .i64 b.places,.slice a2 b.parts.length c2,.slice a3 b.apart.length c3,.slice a4 b.aa.length c4,.slice a (aq b ag).length c]):=D3.o.below (H34.o.trans (H45.o.mono H34.o.size)) D3.o.lt
  have K9:Hid (∀W,Below W5.heap.size W5 W->(λW:World=>W.cell? ⟨w1.heap.size,0,none⟩=some (.int .i64 b.ac)/\W.cell? ⟨w1.heap.size,1,none⟩=some (.int .i64 b.places)/\W.cell? ⟨w1.heap.size,2,none⟩=some (.slice a2 b.parts.length c2)/\W.cell? ⟨w1.heap.size,3,none⟩=some (.slice a3 b.apart.length c3)/\W.cell? ⟨w1.heap.size,4,none⟩=some (.slice a4 b.aa.length c4)/\W.cell? ⟨w4.heap.size,0,none⟩=some (.int .i64 (mm 0))/\W.cell? ⟨w4.heap.size,1,none⟩=some (.int .i64 (mm 1))/\W.cell? ⟨w4.heap.size,2,none⟩=some (.int .i64 (mm 2))/\W.cell? ⟨w4.heap.size,3,none⟩=some (.int .i64 (mm 3))) W):=λW h=>by
   have e1:=D5.o.below h D5.o.lt;have e2:=DM.o.below h DM.o.lt;exact⟨e1.cell 0 rfl,e1.cell 1 rfl,e1.cell 2 rfl,e1.cell 3 rfl,e1.cell 4 rfl,e2.cell 0 rfl,e2.cell 1 rfl,e2.cell 2 rfl,e2.cell 3 rfl⟩
  have HLI:=KU (W5.drewN 1) (.slice a2 b.parts.length c2) (.slice a3 b.apart.length c3) (.slice a4 b.aa.length c4) b b.places.toNat qH.o HN4.o mm;have GR:Hid (∀X,Below W5.heap.size W5 X->Calls ZP 59 #[.agg #[.int .i64 b.ac,.int .i64 b.places,.slice a2 b.parts.length c2,.slice a3 b.apart.length c3,.slice a4 b.aa.length c4],.agg #[.int .i64 (mm 0),.int .i64 (mm 1),.int .i64 (mm 2),.int .i64 (mm 3)]] X (di X (.int .i64 (eR b mm)))):=λX hX=>by simpa [Qw,eR,bP]using(Bc X _ _ _ b (HB.o.later (Kp.of (rR.o.trans (hX.mono rR.o.size)))) HV.o b.places.toNat qH.o mm (m8 HV.o (tR HMS.o)))
  simp only[bP]at HLI;go_wp2_with fail
  go_region_held3 (λW:World=>W.cell? ⟨w1.heap.size,0,none⟩=some (.int .i64 b.ac)/\W.cell? ⟨w1.heap.size,1,none⟩=some (.int .i64 b.places)/\W.cell? ⟨w1.heap.size,2,none⟩=some (.slice a2 b.parts.length c2)/\W.cell? ⟨w1.heap.size,3,none⟩=some (.slice a3 b.apart.length c3)/\W.cell? ⟨w1.heap.size,4,none⟩=some (.slice a4 b.aa.length c4)/\W.cell? ⟨w4.heap.size,0,none⟩=some (.int .i64 (mm 0))/\W.cell? ⟨w4.heap.size,1,none⟩=some (.int .i64 (mm 1))/\W.cell? ⟨w4.heap.size,2,none⟩=some (.int .i64 (mm 2))/\W.cell? ⟨w4.heap.size,3,none⟩=some (.int .i64 (mm 3)))
   (first|exact K9.o _ mF.o|exact K9.o _ mO.o|exact K9.o _ (Below.drewN (Below.refl W5.heap.size W5) 1))
   (first
     |(go_at_call 60
       refine HLI.mono ?_;rintro e w6 ⟨⟨lv,rfl,DA⟩,tJ⟩;have Ql:Hid (am w6 lv (dY b.places.toNat mm)):=am.eD DA;have mO:Hid (Below W5.heap.size W5 w6):=(Below.drewN (Below.refl W5.heap.size W5) 1).trans tJ;clear DA tJ HLI)
     |(go_at_call 59
       refine(GR.o w6 mO.o).mono ?_;rintro e w7 ⟨rfl,qa⟩;have mF:=mO.t qa;have zeB:Hid (am w7 lv (dY b.places.toNat mm)):=Ql.o.later (Kp.of qa);clear qa))
  clear hW5;go_wp2
  refine bodyPost_ret (v:=.tuple #[lv,.int .i64 (eR b mm),.int .i64 0]) ?_ rfl ⟨.inr (.inr ⟨HL.o.1,HL.o.2,lv,by rw[Fh.o,UM.o],by rw[Fh.o,UM.o];exact zeB.o⟩),rR.o.trans (mF.o.mono rR.o.size)⟩;rw[results_tmp3 rfl];rfl
theorem nN:∀(ks:List ((Nat->Int)->Int)) (x y:Nat->Int),aQ ks x y=true->aQ ks y x=false
 | [],_,_,h=>by simp[aQ]at h
 |k::ks,x,y,h=>by
  unfold aQ at h⊢;by_cases h1:k x<k y
  .rw[zAH (by omega),zAH (by omega)]
  .rw[zAH h1]at h;by_cases h2:k x=k y
   .rw[zAI h2]at h;rw[zAH (by omega),zAI h2.symm];exact nN ks x y h
   .rw[zAH h2]at h;cases h
theorem tS:∀(ks:List ((Nat->Int)->Int)) (x y z:Nat->Int),aQ ks x y=true->aQ ks z y=false->aQ ks x z=true
 | [],_,_,_,h,_=>by simp[aQ]at h
 |k::ks,x,y,z,h,h'=>by
  unfold aQ at h h'⊢;by_cases h3:k z<k y
  .rw[zAI h3]at h';cases h'
  .rw[zAH h3]at h';by_cases h1:k x<k y
   .rw[zAI (by omega)]
   .rw[zAH h1]at h;by_cases h2:k x=k y
    .rw[zAI h2]at h;by_cases h4:k z=k y
     .rw[zAI h4]at h';rw[zAH (by omega),zAI (by omega)];exact tS ks x y z h h'
     .rw[zAI (by omega)]
    .rw[zAH h2]at h;cases h
theorem qR (ks:List ((Nat->Int)->Int)) (x:Nat->Int):aQ ks x x=false:=by
 cases h:aQ ks x x with
 |false=>rfl
 |true=>rw[nN ks x x h]at h;cases h
theorem Fl {ks:List ((Nat->Int)->Int)} {R:(Nat->Int)->(Nat->Int)->Prop} {t0:Nat->Int} {l:List (Nat->Int)} (hR:(t0::l).Pairwise R):∀k:Nat,k<=l.length->
 (∀x∈t0::l.take k,aQ ks x (cn ks t0 l k)=false/\(aQ ks (cn ks t0 l k) x=false->x=cn ks t0 l k\/R (cn ks t0 l k) x))/\cn ks t0 l k∈t0::l.take k
 |0,_=>by
  have e:cn ks t0 l 0=t0:=by simp[cn]
  rw[e];refine⟨λx hx=>?_,by simp⟩;simp at hx;subst hx;exact⟨qR _ _,λ_=>.inl rfl⟩
 |k+1,hk=>by
  obtain⟨h1,h2⟩:=Fl (ks:=ks) hR k (by omega);have hx:l[k]?=some l[k]:=zAJ (by omega);obtain⟨y,hy⟩:=ex1 (l[k]);rw[hy]at hx;have Ku:t0::l.take (k+1)=(t0::l.take k)++[y]:=by rw[zCA,hx];rfl
  have hRy:∀x∈t0::l.take k,R x y:=λx ux=>by
   have hp:((t0::l.take k)++[y]).Pairwise R:=by
    rw[<-Ku];exact List.Pairwise.sublist (List.Sublist.cons_cons _ (List.take_sublist _ _)) hR
   exact(List.pairwise_append.1 hp).2.2 x ux y (by simp)
  cases hl:aQ ks y (cn ks t0 l k)with
  |true=>
   rw[nM hx hl,Ku];refine⟨λx ux=>?_,by simp⟩;rcases zDV.1 ux with ux|ux
   .have h3:=tS ks y _ x hl (h1 x ux).1;exact⟨nN _ _ _ h3,λh=>by rw[h3]at h;cases h⟩
   .simp at ux;subst ux;exact⟨qR _ _,λ_=>.inl rfl⟩
  |false=>
   rw[mJ hx hl,Ku];refine⟨λx ux=>?_,List.mem_append_left _ h2⟩;rcases zDV.1 ux with ux|ux
   .exact h1 x ux
   .simp at ux;subst ux;exact⟨hl,λ_=>.inr (hRy _ h2)⟩
theorem OP {R:(Nat->Int)->(Nat->Int)->Prop} (hR:S.Pairwise R) (hx:x∈S):
 aQ ks x (dL ks S)=false/\(aQ ks (dL ks S) x=false->x=dL ks S\/R (dL ks S) x):=by
 cases S with
 |nil=>cases hx
 |cons t0 l=>
  have h:=(Fl (ks:=ks) hR l.length (zAC _)).1 x (by rw[zDK];exact hx);exact h
theorem Bm (h:o.length=N):dY N (ak o)=o:=by
 apply List.ext_getElem?;intro i;unfold dY;rw[zCV];by_cases hi:i<N
 .have e:o[i]?=some (o[i]'(by omega)):=zAJ (by omega);rw[List.getElem?_range hi];simp only[zBJ,ak];rw[e];rfl
 .rw[zDA (by simp;omega),zDA (by omega)];rfl
theorem oZ (h:m∈aB b):dY b.places.toNat m∈aZ b b.places.toNat/\ak (dY b.places.toNat m)=m:=by
 rw[iY]at h;obtain⟨o,ho,rfl⟩:=zCL.1 h;rw[Bm (iZ ho).1];exact⟨ho,rfl⟩
theorem yF (h:o∈aZ b b.places.toNat):ak o∈aB b:=by
 rw[iY];exact zCL.2 ⟨o,h,rfl⟩
theorem Ln (hv:Valid b) {o:Nat->Int} (ho:o∈aB b) (hm:m∈aB b) (h:ir o m):o=m:=by
 obtain⟨h1,e1⟩:=oZ ho;obtain⟨h2,e2⟩:=oZ hm;have hp:=hv.places;rw[<-e1,<-e2];congr 1;unfold dY;refine List.map_congr_left λi hi=>?_;have Uz:i<4:=by have:=zEV.1 hi;omega
 obtain⟨a,b,c,d⟩:=h;match i,Uz with
 |0,_=>exact a
 |1,_=>exact b
 |2,_=>exact c
 |3,_=>exact d
theorem yG (m:Nat->Int) (N:Nat) (t0:Nat->Int):∀L:List (Nat->Int),dI m N t0 L<=aI m t0 N/\aI m t0 N<=dJ m N t0 L:=by
 have key:∀(L:List (Nat->Int)) (a c:Int),L.foldl (λa t=>min a (aI m t N)) a<=a/\c<=L.foldl (λa t=>max a (aI m t N)) c:=by
  intro L;induction L with
  |nil=>intro a c;exact⟨Int.le_refl _,Int.le_refl _⟩
  |cons t L ih=>
   intro a c;have h:=ih (min a (aI m t N)) (max c (aI m t N));simp only[zFH];omega
 intro L;exact⟨(key L _ 0).1,(key L 0 _).2⟩
theorem Lo (N:Nat) (L:List (Nat->Int)) (m:Nat->Int):ia N L m<=fp N L m:=by
 have h:=yG m N (L.headD λ_=>0) L.tail;unfold ia fp;omega
theorem Lp (hm:m∈aB b):m∈aS b L↔fp b.places.toNat L m<=b.ac:=by
 unfold aS;rw[zCX];simp[hm]
theorem ww (hv:Valid b) (hm:m∈aB b):(∃o∈aS b L,ir o m)↔fp b.places.toNat L m<=b.ac:=by
 rw[<-Lp hm];refine⟨λ⟨o,ho,h⟩=>?_,λh=>⟨m,h,rfl,rfl,rfl,rfl⟩⟩;rw[<-Ln hv (tR ho) hm h];exact ho
theorem Bn {x:Int}:∀{n:Nat} {lo:Int},x∈span lo n↔lo<=x/\x<lo+n
 |0,lo=>Iff.intro (λh=>absurd h zCE) (λh=>by omega)
 |n+1,lo=>by
  rw[span,zAS,Bn (n:=n)];omega
theorem Bo:∀(n:Nat) (lo c d:Int) {α:Type} (f:Int->List α),(lo>d\/lo+n<=c)->(span lo n).flatMap (λk=>if c<=k/\k<=d then f k else [])=[]:=λn lo c d α f h=>by
 rw[zFP];intro k hk;have:=Bn.1 hk;rw[zAH (by omega)]
theorem Bp:∀(n:Nat) (lo c d:Int) {α:Type} (f:Int->List α),c<=lo->lo+n<=d+1->(span lo n).flatMap (λk=>if c<=k/\k<=d then f k else [])=(span lo n).flatMap f
 |0,lo,c,d,α,f,h1,h2=>rfl
 |n+1,lo,c,d,α,f,h1,h2=>by
  rw[span,zBP,zBP,zAI (by omega),Bp n (lo+1) c d f (by omega) (by omega)]
theorem nO:∀(n m:Nat) (lo:Int),span lo (n+m)=span lo n++span (lo+n) m
 |0,m,lo=>by simp[span]
 |n+1,m,lo=>by
  rw[show n+1+m=(n+m)+1 by omega,span,span,nO n m (lo+1),zDW];congr 3;omega
theorem Hm (lo hi c d:Int) (f:Int->List α) (h1:lo<=c) (h2:d<=hi):(span c (d+1-c).toNat).flatMap f=(span lo (hi+1-lo).toNat).flatMap λk=>if c<=k/\k<=d then f k else []:=by
 by_cases Un:c<=d
 .obtain⟨a,ha⟩:∃a:Nat,c=lo+a:=⟨(c-lo).toNat,by omega⟩
  obtain⟨m,hm⟩:∃m:Nat,d+1-c=m:=⟨(d+1-c).toNat,by omega⟩
  obtain⟨z,hz⟩:∃z:Nat,hi-d=z:=⟨(hi-d).toNat,by omega⟩
  rw[show(hi+1-lo).toNat=a+(m+z) by omega,show(d+1-c).toNat=m by omega,nO,nO,zCJ,zCJ,
   Bo a lo c d f (by omega),Bo z _ c d f (by omega),Bp m _ c d f (by omega) (by omega),zDS,zCY,<-ha]
 .rw[show(d+1-c).toNat=0 by omega];symm;rw[show span c 0=[]from rfl,zFC,zFP];intro k hk;rw[zAH (by omega)]
theorem jw (ag:(Nat->Int)->Bool) {l:List Part} {i:Nat} {c d:Int} {x:Part} (hx:l[i]?=some x) (hc:x.lo<=c/\d<=x.hi):∀(n j:Nat) (t:Nat->Int),j+n=l.length->
 (i<j->bQ ag (retime l i c d) n j t=bQ ag l n j t)/\(j<=i->bQ ag (retime l i c d) n j t=(bQ ag l n j t).filter λy=>decide (c<=y i/\y i<=d))
 |0,j,t,hj=>⟨λ_=>rfl,λh=>by have:=(zAK.1 hx).1;omega⟩
 |n+1,j,t,hj=>by
  constructor
  .intro h;rw[bQ,bQ,j8 (by omega)];split
   .congr 1;funext k;exact(jw ag hx hc n (j+1) _ (by omega)).1 (by omega)
   .rfl
  .intro h;by_cases e:j=i
   .subst e;rw[bQ,bQ,mI hx,hx];simp only;rw[List.filter_flatMap];have e1:∀k,bQ ag (retime l j c d) n (j+1) (upd t j k)=bQ ag l n (j+1) (upd t j k):=λk=>(jw ag hx hc n (j+1) _ (by omega)).1 (by omega);simp only[e1]
    have e2:∀k,(bQ ag l n (j+1) (upd t j k)).filter (λy=>decide (c<=y j/\y j<=d))=if c<=k/\k<=d then bQ ag l n (j+1) (upd t j k)else []:=λk=>by
     have h1:∀y∈bQ ag l n (j+1) (upd t j k),y j=k:=λy hy=>by
      rw[Fj n (j+1) _ (by omega) y hy];unfold upd;rw[zAI rfl]
     by_cases ek:c<=k/\k<=d
     .rw[zAI ek,List.filter_eq_self];intro y hy;rw[h1 y hy];exact zDD ek
     .rw[zAH ek,zFT];intro y hy;rw[h1 y hy];simp[ek]
    simp only[e2];exact Hm _ _ _ _ _ (by omega) (by omega)
   .rw[bQ,bQ,j8 e];split
    .rw[List.filter_flatMap];congr 1;funext k;exact(jw ag hx hc n (j+1) _ (by omega)).2 (by omega)
    .rfl
theorem Bq (ag ag' c:(Nat->Int)->Bool) (l:List Part) (h:∀t,ag' t=(ag t&&c t)):∀(n j:Nat) (t:Nat->Int),bQ ag' l n j t=(bQ ag l n j t).filter c
 |0,j,t=>by
  unfold bQ;rw[h];cases ag t<;>cases hc:c t<;>simp[hc]
 |n+1,j,t=>by
  unfold bQ;split
  .rw[List.filter_flatMap];congr 1;funext k;exact Bq ag ag' c l h n (j+1) _
  .rfl
theorem qS {x:Part} (hx:b.parts[i]?=some x) (hc:x.lo<=c/\d<=x.hi) (ag:(Nat->Int)->Bool):aq (dK b i c d) ag=(aq b ag).filter λy=>decide (c<=y i/\y i<=d):=by
 have h:=(jw ag hx hc b.parts.length 0 (λ_=>0) (by omega)).2 (zAR _);unfold aq;rw[show(dK b i c d).parts=retime b.parts i c d from rfl,gJ];exact h
theorem Lq (m:Nat->Int) (N:Nat):∀(L:List (Nat->Int)) (t0:Nat->Int),(∀t∈t0::L,dI m N t0 L<=aI m t N/\aI m t N<=dJ m N t0 L)/\(∃t∈t0::L,dI m N t0 L=aI m t N)/\∃t∈t0::L,dJ m N t0 L=aI m t N:=by
 have key:∀(L:List (Nat->Int)) (a c:Int),(∀t∈L,L.foldl (λa t=>min a (aI m t N)) a<=aI m t N/\aI m t N<=L.foldl (λa t=>max a (aI m t N)) c)/\
  (L.foldl (λa t=>min a (aI m t N)) a=a\/∃t∈L,L.foldl (λa t=>min a (aI m t N)) a=aI m t N)/\(L.foldl (λa t=>max a (aI m t N)) c=c\/∃t∈L,L.foldl (λa t=>max a (aI m t N)) c=aI m t N)/\
  L.foldl (λa t=>min a (aI m t N)) a<=a/\c<=L.foldl (λa t=>max a (aI m t N)) c:=by
  intro L;induction L with
  |nil=>intro a c;exact⟨λt h=>(zCE h).elim,.inl rfl,.inl rfl,Int.le_refl _,Int.le_refl _⟩
  |cons t L ih=>
   intro a c;obtain⟨h1,h2,h3,h4,h5⟩:=ih (min a (aI m t N)) (max c (aI m t N));simp only[zFH];refine⟨λy hy=>?_,?_,?_,by omega,by omega⟩
   .rcases zAS.1 hy with rfl|hy
    .omega
    .exact h1 y hy
   .rcases h2 with h|⟨y,hy,h⟩
    .rcases Int.le_total a (aI m t N)with e|e
     .left;omega
     .right;exact⟨t,zDY,by omega⟩
    .right;exact⟨y,zBH _ hy,h⟩
   .rcases h3 with h|⟨y,hy,h⟩
    .rcases Int.le_total c (aI m t N)with e|e
     .right;exact⟨t,zDY,by omega⟩
     .left;omega
    .right;exact⟨y,zBH _ hy,h⟩
 intro L t0;obtain⟨h1,h2,h3,h4,h5⟩:=key L (aI m t0 N) (aI m t0 N);refine⟨λt ht=>?_,?_,?_⟩
 .rcases zAS.1 ht with rfl|ht
  .exact⟨h4,h5⟩
  .exact h1 t ht
 .rcases h2 with h|⟨y,hy,h⟩
  .exact⟨t0,zDY,h⟩
  .exact⟨y,zBH _ hy,h⟩
 .rcases h3 with h|⟨y,hy,h⟩
  .exact⟨t0,zDY,h⟩
  .exact⟨y,zBH _ hy,h⟩
theorem wz (hL:L≠ []) (m:Nat->Int):(∀t∈L,ia N L m<=aI m t N/\aI m t N<=fp N L m)/\(∃t∈L,ia N L m=aI m t N)/\∃t∈L,fp N L m=aI m t N:=by
 cases L with
 |nil=>exact absurd rfl hL
 |cons t0 L=>exact Lq m N L t0
theorem nP (hL:L'≠ []) (hs:∀t∈L',t∈L) (m:Nat->Int):ia N L m<=ia N L' m/\fp N L' m<=fp N L m:=by
 have hL0:L≠ []:=λe=>by
  cases L' with
  |nil=>exact hL rfl
  |cons t _=>have:=hs t zDY;rw[e]at this;cases this
 obtain⟨_,⟨t,ht,e⟩,u,hu,e'⟩:=wz (N:=N) hL m;have h:=(wz (N:=N) hL0 m).1;have h1:=h t (hs t ht);have h2:=h u (hs u hu);omega
theorem tT {p q:α->Bool} (h:∀x,p x=true->q x=true):∀l:List α,(l.filter p).length<=(l.filter q).length
 | []=>zAC _
 |x::l=>by
  have ih:=tT h l;simp only[List.filter_cons];cases hp:p x with
  |true=>rw[h x hp];simpa using ih
  |false=>
   cases hq:q x with
   |true=>simp only[zBV,zAN,zBG,zBS];omega
   |false=>simpa using ih
theorem wA (hm:aB b'=aB b) (hp:b'.places=b.places) (hb:b'.ac=b.ac) (hL:L'≠ []) (hs:∀t∈L',t∈L):(∀m∈aS b L,m∈aS b' L')/\(aS b L).length<=(aS b' L').length:=by
 have key:∀m,decide (fp b.places.toNat L m<=b.ac)=true->decide (fp b'.places.toNat L' m<=b'.ac)=true:=λm h=>by
  have h1:=of_decide_eq_true h;have h2:=(nP (N:=b.places.toNat) hL hs m).2;rw[hp,hb];exact zDD (by omega)
 unfold aS;rw[hm];refine⟨λm h=>?_,tT key _⟩;rw[zCX]at h⊢;exact⟨h.1,key m h.2⟩
theorem Hn (hv:Valid b) (nQ:Valid b') (hm:aB b'=aB b) (hp:b'.places=b.places) (hb:b'.ac=b.ac) (hL:L'≠ []) (hs:∀t∈L',t∈L) (GL:m∈aB b):
 eA b L m=0\/eA b L m=eA b' L' m:=by
 have ht:=nP (N:=b.places.toNat) hL hs m;have h1:=ww hv (L:=L) GL;have h2:=ww nQ (L:=L') (m:=m) (by rw[hm];exact GL);have h3:=Lo b.places.toNat L' m;rw[hp,hb]at h2;unfold eA;rw[hp,hb];by_cases e1:b.ac<ia b.places.toNat L m
 .rw[zAI e1,zAI (by omega)];right;rfl
 .rw[zAH e1];by_cases e2:fp b.places.toNat L m<=b.ac
  .rw[zAI (h1.2 e2),zAH (by omega),zAI (h2.2 (by omega))];right;rfl
  .rw[zAH (λh=>e2 (h1.1 h))];left;rfl
theorem DU (hs:∀t∈L',t∈L) (i:Nat):∀c∈eF L' i,c∈eF L i:=λc hc=>by
 have h:=qQ.1 hc;refine qQ.2 λe=>h ?_;unfold Lb at e⊢;rw[zFT]at e⊢;exact λy hy=>e y (hs y hy)
theorem tU {l l':List Part} {p:Int} (h:∀(i:Nat),(l'[i]?).map Part.fits=(l[i]?).map Part.fits):∀k:Nat,cM p l' k=cM p l k
 |0=>rfl
 |k+1=>by
  have h1:=h k;rw[cM,cM,tU h k];cases e:l[k]? with
  |none=>
   rw[e]at h1;cases e':l'[k]? with
   |none=>rfl
   |some y=>rw[e']at h1;cases h1
  |some x=>
   rw[e]at h1;cases e':l'[k]? with
   |none=>rw[e']at h1;cases h1
   |some y=>
    rw[e']at h1;have h2:y.fits=x.fits:=by simpa using h1
    simp only[h2]
theorem mK (h1:∀p,db b' p=db b p) (h2:b'.apart=b.apart) (bit:Nat->Bool):∀(n p:Nat) (m:Nat->Int),fill b' bit n p m=fill b bit n p m
 |0,_,_=>rfl
 |n+1,p,m=>by
  rw[fill,fill,h1,h2];split
  .congr 1;funext k;rw[mK h1 h2 bit n (p+1) (upd m p k)]
  .exact mK h1 h2 bit n (p+1) m
structure Knows (b b':ap):Prop where
 valid:Valid b
 ij:Valid b'
 ac:b'.ac=b.ac
 places:b'.places=b.places
 parts:b'.parts.length=b.parts.length
 uJ:aB b'=aB b
 okM:∀l,cr b l->cr b' l
 cost:∀m,eR b' m=eR b m
 less:(aq b' (ai b')).length<=(aq b (ai b)).length
 mem:∀t∈aq b' (ai b'),t∈aq b (ai b)
 ne:aq b' (ai b')≠ []
theorem Knows.ne0 (h:Knows b b'):aq b (ai b)≠ []:=λe=>by
 obtain⟨t,ht⟩:=List.exists_mem_of_ne_nil _ h.ne;have:=h.mem t ht;rw[e]at this;cases this
theorem Knows.cheap (h:Knows b b') (hs:aS b (aq b (ai b))≠ []):aS b' (aq b' (ai b'))≠ []/\
 eR b' (dL [eR b'] (aS b' (aq b' (ai b'))))<=eR b (dL [eR b] (aS b (aq b (ai b)))):=by
 have h1:=(wA h.uJ h.places h.ac h.ne h.mem).1 _ (tQ (ks:=[eR b]) hs);refine⟨λe=>(by rw[e]at h1;cases h1),?_⟩;have h2:=(OP (ks:=[eR b']) (R:=λ_ _=>True) (List.pairwise_of_forall λ_ _=>trivial) h1).1;have h3:=h.cost (dL [eR b] (aS b (aq b (ai b))));unfold aQ at h2;split at h2
 .cases h2
 .omega
theorem mh (h:∀i:Nat,(b'.parts[i]?).map Part.cost=(b.parts[i]?).map Part.cost) (m:Nat->Int):∀k:Nat,eB b' m k=eB b m k
 |0=>rfl
 |k+1=>by
  have h1:=h (m k).toNat;rw[eB,eB,mh h m k];cases e:b.parts[(m k).toNat]? with
  |none=>
   rw[e]at h1;cases e':b'.parts[(m k).toNat]? with
   |none=>rfl
   |some y=>rw[e']at h1;cases h1
  |some x=>
   rw[e]at h1;cases e':b'.parts[(m k).toNat]? with
   |none=>rw[e']at h1;cases h1
   |some y=>
    rw[e']at h1;have h2:y.cost=x.cost:=by simpa using h1
    simp only[h2]
theorem tV (b:ap) (t:bH):aq (ck b t) (ai (ck b t))=(aq b (ai b)).filter λy=>dZ b.places.toNat y t:=by
 unfold aq;refine Bq (ai b) (ai (ck b t)) (λy=>dZ b.places.toNat y t) b.parts (λy=>?_) _ _ _;unfold ai;show(b.aa++[t]).all (dZ b.places.toNat y)=_;rw[List.all_append];simp
theorem Br {t:bH} (hv:Valid b) (hb:cJ (ck b t)=0) (hn:aq (ck b t) (ai (ck b t))≠ []):Knows b (ck b t)where
 valid:=hv
 ij:=pU.1 hb
 ac:=rfl
 places:=rfl
 parts:=rfl
 uJ:=mK (b:=b) (b':=ck b t) (λ_=>rfl) rfl _ _ _ _
 okM:=λl h=>⟨h.len,h.range,λj x hj hx=>⟨(h.fit j x hj hx).fits,(h.fit j x hj hx).Ug⟩⟩
 cost:=λm=>mh (b:=b) (b':=ck b t) (λ_=>rfl) m _
 less:=by rw[tV];exact zDP _ _
 mem:=λy hy=>by rw[tV]at hy;exact(zCX.1 hy).1
 ne:=hn
theorem tW (f:Part->α) (hf:∀(x:Part) (lo hi:Int),f {x with lo:=lo,hi:=hi}=f x) (l:List Part) (i:Nat) (lo hi:Int) (j:Nat):((retime l i lo hi)[j]?).map f=(l[j]?).map f:=by
 by_cases e:j=i
 .subst e;cases hx:l[j]? with
  |none=>unfold retime;rw[hx];simp only;rw[hx]
  |some x=>rw[mI hx];simp[hf]
 .rw[j8 e]
theorem DV {x:Part} (hv:Valid b) (hx:b.parts[i]?=some x) (hc:x.lo<=c/\d<=x.hi) (Un:c<=d) (hn:aq (dK b i c d) (ai (dK b i c d))≠ []):Knows b (dK b i c d)where
 valid:=hv
 ij:=by
  have h:=(hv.parts.all i x (zAK.1 hx).1 hx).1;have h1:=h.time;have h2:=h.wide;exact qM hv i ⟨by omega,Un,by omega⟩ (by omega)
 ac:=rfl
 places:=rfl
 parts:=gJ _ _ _ _
 uJ:=by
  unfold aB;refine mK (b:=b) (b':=dK b i c d) (λp=>?_) rfl _ _ _ _;show cM p (retime b.parts i c d) (retime b.parts i c d).length=_;rw[gJ];exact tU (λj=>tW Part.fits (λ_ _ _=>rfl) _ _ _ _ _) _
 okM:=λl h=>oX h
 cost:=λm=>mh (b:=b) (b':=dK b i c d) (λj=>tW Part.cost (λ_ _ _=>rfl) _ _ _ _ _) m _
 less:=by rw[show ai (dK b i c d)=ai b from rfl,qS hx hc];exact zDP _ _
 mem:=λy hy=>by rw[show ai (dK b i c d)=ai b from rfl,qS hx hc]at hy;exact(zCX.1 hy).1
 ne:=hn
theorem Bs (w:World) (v:Value) (b:ap) (i:Nat) (x:Part) (lo hi:Int) (hb:ar w v b) (hv:Valid b) (hc:iv w) (hx:b.parts[i]?=some x) (hs:¬(0<=lo/\lo<=hi/\hi<=20)):
 Calls ZP 31 #[v,.int .i64 i,.agg #[.int .i64 lo,.int .i64 hi]] w (di w (.tuple #[.agg i7,.int .i64 1])):=by
 have HB:=hid hb;have HV:Hid (Valid b):=hv;have HC:Hid (iv w):=hc;have HX:=hid hx;have E5:=(zAK.1 hx).1;have E4:=hv.parts.many;have HSB:=hid hs;obtain⟨a2,c2,a3,c3,a4,c4,rfl⟩:=hb.dA;have Ko:=HB.o.Fg;obtain⟨blk,off,rfl⟩:∃blk off,a2=some ⟨blk,off,none⟩:=Ko.first (by omega);obtain⟨A1,aV⟩:=ex1 (w.alloc (.cells #[.int .i64 b.ac,.int .i64 b.places,.slice (some ⟨blk,off,none⟩) b.parts.length c2,.slice a3 b.apart.length c3,.slice a4 b.aa.length c4] 26));obtain⟨A2,bc⟩:=ex1 (A1.alloc (.cells #[.int .i64 lo,.int .i64 hi] 43));obtain⟨A3,eE⟩:=ex1 (A2.alloc (.cells i7 26));have cS:=dt aV;have gV:=dt bc;rw[cS]at gV;have B1:Hid (aA A3 w.heap.size 26 #[.int .i64 b.ac,.int .i64 b.places,.slice (some ⟨blk,off,none⟩) b.parts.length c2,.slice a3 b.apart.length c3,.slice a4 b.aa.length c4]):=(aF eE).box ((aF bc).box (bC aV) (by simp)) (by simp);have B2:Hid (aA A3 (w.heap.size+1) 43 #[.int .i64 lo,.int .i64 hi]):=by have:=(aF eE).box (bC bc) (by simp);rw[cS]at this;exact this
 have B3:Hid (aA A3 (w.heap.size+1+1) 26 i7):=by have:=bC eE;rw[gV]at this;exact this
 have HW:Hid (Below w.heap.size w A3):=((aF aV).trans' ((aF bc).trans' (aF eE))).below (by simp) (zAC _);obtain⟨z0,z1,z2,z3,z4⟩:=B1.o.c5;have Yr:=iV A3 _ b (HB.o.later (Kp.of HW.o)) hv (HC.o.later HW.o);have Ik:(i:Int)<(b.parts.length:Int):=by omega
 have kJ:=kv lo hi 0 20 21 (by omega);clear hb hv hc hx hs Ko;go_enter ZF31,Tryz.ntmps31
 go_wp2_with fail
 refine Yr.mono ?_;rintro e w1 ⟨⟨r,rfl,rfl⟩,bi⟩;have dh:=hid bi;have tu:=HW.t bi;clear bi Yr z0 z1 z2 z3 z4 aV bc eE cS gV;have D1:=hidb B1 dh.o;have D2:=hidb B2 dh.o;have D3:=hidb B3 dh.o
 have HS:Hid (∀X:World,Below w1.heap.size w1 X->(X.cell? ⟨w.heap.size,0,none⟩=some (.int .i64 b.ac)/\X.cell? ⟨w.heap.size,1,none⟩=some (.int .i64 b.places)/\X.cell? ⟨w.heap.size,2,none⟩=some (.slice (some ⟨blk,off,none⟩) b.parts.length c2)/\X.cell? ⟨w.heap.size,3,none⟩=some (.slice a3 b.apart.length c3)/\X.cell? ⟨w.heap.size,4,none⟩=some (.slice a4 b.aa.length c4))/\Below w1.heap.size w1 X):=λX hX=>by
  have BX:=D1.o.below hX D1.o.lt;exact⟨⟨BX.cell 0 rfl,BX.cell 1 rfl,BX.cell 2 rfl,BX.cell 3 rfl,BX.cell 4 rfl⟩,hX⟩
 clear B1 B2 B3 dh HW;go_wp2_with fail
 go_region_held3 (λX:World=>(X.cell? ⟨w.heap.size,0,none⟩=some (.int .i64 b.ac)/\X.cell? ⟨w.heap.size,1,none⟩=some (.int .i64 b.places)/\X.cell? ⟨w.heap.size,2,none⟩=some (.slice (some ⟨blk,off,none⟩) b.parts.length c2)/\X.cell? ⟨w.heap.size,3,none⟩=some (.slice a3 b.apart.length c3)/\X.cell? ⟨w.heap.size,4,none⟩=some (.slice a4 b.aa.length c4))/\Below w1.heap.size w1 X)
  (first
    |with_reducible exact HS.o _ fL.o
    |with_reducible exact HS.o _ gm.o
    |exact HS.o _ (Below.drewN (Below.refl w1.heap.size w1) 1)
    |fail)
  (first
    |(go_at_call 51
      refine(tN _ _).mono ?_;rintro e w2 ⟨⟨gk,rfl,Qm,Io⟩,fJ⟩;have gm:Hid (Below w1.heap.size w1 w2):=(Below.drewN (Below.refl w1.heap.size w1) 1).trans fJ;have Qn:=hid Qm;clear Qm Io fJ)
    |(go_at_call 91
      refine(pY w2 _ b i gk (HB.o.later (Kp.of (tu.o.trans (gm.o.mono tu.o.size)))) HV.o ⟨by omega,Ik⟩ Qn.o).mono ?_;rintro e w3 ⟨rfl,DF⟩;have fL:=gm.t DF;clear DF))
 have DO:=tu.t fL.o;have E1:=hidb D1 fL.o;have E2:=hidb D2 fL.o;have E3:=hidb D3 fL.o;obtain⟨X4,hX4⟩:=ex1 (w3.alloc (.cells #[.int .i64 lo,.int .i64 hi] 43));have k4:=aF hX4;obtain⟨y0,y1⟩:=E2.o.c2;have F3:Hid (aA X4 (w.heap.size+1+1) 26 i7):=k4.box E3.o (by simp);have Oy:Hid (Below w.heap.size w X4):=DO.o.trans (k4.below (by simp) DO.o.size);obtain⟨⟨t0,t1,t2,t3,t4⟩,f0,f1,f2,f3,f4⟩:=qN F3.o;have d0:=F3.o.same (i:=0) (v:=.int .i64 0) rfl;have d1:=F3.o.same (i:=1) (v:=.int .i64 0) rfl;have d2:=F3.o.same (i:=2) (v:=.slice none 0 0) rfl;have d3:=F3.o.same (i:=3) (v:=.slice none 0 0) rfl;have d4:=F3.o.same (i:=4) (v:=.slice none 0 0) rfl;clear k4
 go_wp2_with(go_at_call 77
             refine(kJ _).mono ?_;rintro e w' ⟨r,rfl,hr,rfl⟩
             obtain rfl:r=false:=(by
              cases r with
              |false=>rfl
              |true=>exact absurd ⟨hr.t.1,hr.t.2.1,hr.t.2.2.1⟩ HSB.o)
             clear hr)
 refine bodyPost_ret (v:=.tuple #[.agg i7,.int .i64 1]) ?_ rfl ⟨rfl,Oy.o⟩;rw[results_cell_tmp rfl];go_simp
theorem yH (w:World) (v u:Value) (l m:List Int) (hl:am w v l) (hm:am w u m) (sR:∀x∈l,x∈m):Calls ZP 76 #[v,u] w (kQ w (.bool true)):=by
 obtain⟨a,c,h1,h2⟩:=hl;have H:Hid (bA w v l.length a c/\_):=⟨h1,h2⟩
 have HM:=hid hm;have S8:=hid sR;obtain⟨rfl,l1,m1,n1,r1⟩:=h1;unfold maxLen at m1;clear h2 n1 r1 hm sR;go_enter ZF76,Tryz.ntmps76
 go_wp2
 go_loop [5] (λi=>∃k:Nat,k<=l.length/\i=.int .i64 k) (λi=>l.length-(intOf i).toNat)
 case atStart=>exact⟨0,zAR _,rfl⟩
 case round=>
  obtain⟨k,hk,rfl⟩:=hrel;by_cases az:k<l.length
  .obtain⟨⟨blk,off,sp⟩,y,rfl,hy,y0⟩:=H.o.1.elem H.o.2 az;obtain rfl:sp=none:=y0.1;have g0:=y0.2;simp only at g0;have hh:=xN w u m y HM.o;rw[zDD (S8.o y (zAX hy))]at hh;have j0:(k:Int)<(l.length:Int):=by omega
   clear y0 hy;go_wp2_with(go_at_call 17;refine hh.mono ?_;rintro e w' ⟨rfl,hww⟩;obtain rfl:w=w':=hww.symm)
   go_round
   case rel=>exact⟨k+1,by omega,by go_num⟩
   case measure=>simp[intOf];omega
  .have e:k=l.length:=by omega
   subst e;go_wp2
   go_ret;exact kQ.of (.bool true) rfl
end Go.Proofs.Cz
