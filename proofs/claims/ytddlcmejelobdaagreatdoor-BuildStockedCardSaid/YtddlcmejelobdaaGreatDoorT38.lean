/- A part. Conditions: none. -/
import Derived.Test.YtddlcmejelobdaaGreatDoorT37
set_option linter.all false
set_option maxHeartbeats 8000000
set_option maxRecDepth 100000
namespace Go.Proofs.Cz
open Go.RowKit Go.Maps
variable {D D1:DataW Unit} {M T c ga gk gm gs:Nat} {S:List (Nat->Int)} {a:Option Addr} {b:ai} {v2 v3 v4 v5:Value} {w w':World}
theorem JU (w:World):(zeroValue 3).run ZP w=.ok (.int .i64 0) w:=(Tz.MG 3 w).trans (Tryz.zeroValue3 w)
def kD (D D':DataW Unit) (T:Nat):Prop:=∀t kt,dn t->keyOf ZP 91 (.agg (tick t))=some kt->T<=total t->Maps.has D' kt=Maps.has D kt
theorem kD.refl (D:DataW Unit) (T:Nat):kD D D T:=fun _ _ _ _ _=>rfl
theorem kD.trans {D2:DataW Unit} (h:kD D D1 T) (k:kD D1 D2 T):kD D D2 T:=fun t kt h1 h2 h3=>(k t kt h1 h2 h3).trans (h t kt h1 h2 h3)
theorem kD.mono {T':Nat} (h:kD D D1 T) (ht:T<=T'):kD D D1 T':=fun t kt h1 h2 h3=>h t kt h1 h2 (by omega)
theorem kD.put {s:Nat->Int} {kl:Lit} {d:DataW Unit} (h:kD D D1 (total s)) (hk:keyOf ZP 91 (.agg (tick s))=some kl):kD D (D1.put kl d) (total s+1):=fun t kt h1 h2 h3=>by
 have bC:kt≠kl:=fun e=>by
  subst e;have h4:=lB.inj h2 hk;have h5:=(sM (s:=t) (t:=s) (by simpa using h4)).total;omega
 rw[has_put_other bC];exact h t kt h1 h2 (by omega)
structure ff (w:World) (b:ai) (v2 v3 v4 v5:Value) (a:Option Addr) (c:Nat) (S:List (Nat->Int)) (gk ga gs gm M:Nat):Prop where
 fk:aD w gk 87 #[.map (some M)]
 fa:aD w ga 85 #[.slice a S.length c]
 fs:aD w gs 81 #[.int .i64 b.ao,.int .i64 b.places,v2,v3,v4,v5]
 fm:aD w gm 88 #[.func (.func 54) #[] #[ptr gk,ptr ga,ptr gs,ptr gm]]
 fv:bX 4 w (.slice a S.length c) S
 ne:gk≠M/\ga≠M/\gs≠M/\gm≠M
 row:∀j,(Value.slice a S.length c).ownBlock=some j->j≠M\/c=0
theorem bX.on0 (h:bX 4 w (.slice a S.length c) S) (hr:∀j,(Value.slice a S.length c).ownBlock=some j->j≠M\/c=0) (hk:aa [M] w w'):bX 4 w' (.slice a S.length c) S:=by
 by_cases h0:c=0
 .subst h0;obtain⟨a',c',h1,_⟩:=h;have he:=h1.eq;simp only[Value.slice.injEq,true_and]at he;obtain⟨rfl,rfl⟩:=he;have hn:S=[]:=List.eq_nil_of_length_eq_zero (by have:=h1.le;omega);subst hn;exact⟨a,0,⟨rfl,h1.le,h1.MH,h1.nil,fun b hb=>.inl rfl⟩,fun b hb j t hj=>by cases hj⟩
 .exact h.on fun j hj ar=>hk.block j ar (by simpa using(hr j hj).resolve_right h0)
theorem ff.on (h:ff w b v2 v3 v4 v5 a c S gk ga gs gm M) (hk:aa [M] w w'):ff w' b v2 v3 v4 v5 a c S gk ga gs gm M:=
 ⟨hk.box h.fk (by simpa using h.ne.1),hk.box h.fa (by simpa using h.ne.2.1),hk.box h.fs (by simpa using h.ne.2.2.1),hk.box h.fm (by simpa using h.ne.2.2.2),h.fv.on0 h.row hk,h.ne,h.row⟩
theorem ff.on2 {P:Nat} (h:ff w b v2 v3 v4 v5 a c S gk ga gs gm M) (hk:aa [P] w w') (hP:gk≠P/\ga≠P/\gs≠P/\gm≠P) (hr:∀j,(Value.slice a S.length c).ownBlock=some j->j≠P\/c=0):ff w' b v2 v3 v4 v5 a c S gk ga gs gm M:=
 ⟨hk.box h.fk (by simpa using hP.1),hk.box h.fa (by simpa using hP.2.1),hk.box h.fs (by simpa using hP.2.2.1),hk.box h.fm (by simpa using hP.2.2.2),h.fv.on0 hr hk,h.ne,h.row⟩
theorem JV (b:ai) (N:Nat) (hN:b.places=N) (tV:1<=N/\N<=4) (v2 v3 v4 v5:Value) (a:Option Addr) (c:Nat) (S:List (Nat->Int)) (hS:∀m∈S,∀i,i<N->0<=m i/\m i<5) (gk ga gs gm M:Nat):
 ∀(f:Nat) (w:World) (s:Nat->Int) (D:DataW Unit),total s<f->dn s->ff w b v2 v3 v4 v5 a c S gk ga gs gm M->bj w N S M D->
  Calls ZP 54 #[.agg (tick s),ptr gk,ptr ga,ptr gs,ptr gm] w (fun e w'=>(e=.returned (.int .i64 (bg N S s:Nat))/\∃D',bj w' N S M D'/\kD D D' (total s+1))/\aa [M] w w'):=by
 intro f;induction f with
 |zero=>intro w s D h;omega
 |succ f ih=>
  intro w s D hf hs hA hK;have HA:=hid hA;have HK:=hid hK;have HS:Hid (dn s):=hs;have Jt:=hid hS;have HN:=hid hN;have HF:=hid hf
  have HIH:Hid (∀(w:World) (s:Nat->Int) (D:DataW Unit),total s<f->dn s->ff w b v2 v3 v4 v5 a c S gk ga gs gm M->bj w N S M D->
   Calls ZP 54 #[.agg (tick s),ptr gk,ptr ga,ptr gs,ptr gm] w (fun e w'=>(e=.returned (.int .i64 (bg N S s:Nat))/\∃D',bj w' N S M D'/\kD D D' (total s+1))/\aa [M] w w')):=ih
  obtain⟨kl,rJ⟩:=F5 s hs;have AG:=hid rJ;obtain⟨mo,lZ⟩:∃mo:Nat,bg N S s=mo:=⟨_,rfl⟩
  have OM:=hid lZ
  have zeG:mo<=15:=by
   have h1:=oD tV.1 hS (total s+1) s;have h0:=hs 0 (by omega);have oV:=hs 1 (by omega);have h2:=hs 2 (by omega);have h3:=hs 3 (by omega);have h4:=hs 4 (by omega)
   have h5:total s<=15:=by unfold total;omega
   have h6:bg N S s<=total s:=h1;omega
  rw[lZ];obtain⟨A1,bI⟩:=ex1 (w.alloc (.cells (tick s) 91));have B1:Hid (aD A1 w.heap.size 91 (tick s)):=fe bI;have KA:Hid (aa [M] w A1):=by rw[<-bI];exact aa.alloc _ _ _
  have Fa:Hid (ff A1 b v2 v3 v4 v5 a c S gk ga gs gm M):=HA.o.on KA.o;have hMw:=HK.o.lt;have HMW:=hid hMw;have Nc:Hid (bj A1 N S M D):=HK.o.on (by rw[<-bI];exact(aa.alloc [] w _).block M hMw (by simp));have hc5:(tick s).toList=[.int .i64 (s 0),.int .i64 (s 1),.int .i64 (s 2),.int .i64 (s 3),.int .i64 (s 4)]:=rfl;obtain⟨b0,b1,b2,b3,b4⟩:=B1.o.c5;have ck:=Fa.o.fk.cell 0 rfl;obtain⟨n,bO,N8⟩:=Nc.o.own;have F8:=hid bO;have HNC:Hid (n<=cnt D):=N8;simp only[tick]at bI rJ⊢;clear hA hK hs hf ih lZ bO N8 hS hN hMw hc5;have yZ:=Nc.o.RM s HS.o kl AG.o;cases hh:Maps.has D kl with
  |true=>
   have RZ:=yZ hh;rw[OM.o]at RZ;have HAT:=hid RZ;have HH:=hid hh;clear yZ RZ;go_enter ZF54,Tryz.ntmps54
   go_wp2_with(at_lookup
               refine wpList_lookup_own_ok_int _ rfl _ _ 87 rfl 91 3 .i64 lB CF ra (JU _) M n D rfl F8.o _ _ rfl rJ ?_;intro cv vZ hwc;rw[HAT.o]at vZ;obtain rfl:(mo:Int)=cv:=by simpa using vZ
               rw[hh];clear vZ hwc)
   go_ret;exact⟨⟨rfl,D,Nc.o,kD.refl _ _⟩,KA.o⟩
  |false=>
   have HH:=hid hh;have HAT:Hid (D.atKey kl (.lit (.int .i64 0))=(.lit (.int .i64 0):DataW Unit)):=atKey_of_not_has hh _;have ca:=Fa.o.fa.cell 0 rfl;clear yZ;go_enter ZF54,Tryz.ntmps54
   go_wp2_with(at_lookup
               refine wpList_lookup_own_ok_int _ rfl _ _ 87 rfl 91 3 .i64 lB CF ra (JU _) M n D rfl F8.o _ _ rfl rJ ?_;intro cv vZ hwc;rw[HAT.o]at vZ;obtain rfl:(0:Int)=cv:=by simpa using vZ
               rw[hh];clear vZ hwc)
   obtain⟨va,vc,AA,hve⟩:=Fa.o.fv;have hvq:=AA.eq;simp only[Value.slice.injEq,true_and]at hvq;obtain⟨rfl,rfl⟩:=hvq;have Wo:Hid (bS A1 (.slice a S.length c) S.length a c/\∀d,a=some d->∀(j:Nat) (t:Nat->Int),S[j]?=some t->∀r,r<4->At A1 d (j*4+r) (.int .i64 (t r))):=⟨AA,hve⟩
   have zil:=AA.le;have Wp:=AA.MH;unfold maxLen at Wp;clear AA hve bI;go_loopw [23,7] (fun i u wr=>∃(k:Nat),k<=S.length/\i=.int .i64 k/\u=.int .i64 (gp N S s k:Nat)/\Hid (aa [M] A1 wr)/\∃D2,Hid (bj wr N S M D2/\kD D D2 (total s))) (fun i _ _=>S.length-(intOf i).toNat)
   case atStart=>exact⟨0,Nat.zero_le _,rfl,by rw[zX];rfl,aa.refl _ _,D,Nc.o,kD.refl _ _⟩
   case round=>
    obtain⟨k,hk,rfl,rfl,xl,D2,Ng⟩:=hrel;by_cases ar:k<S.length
    .obtain⟨⟨blk,off,sp⟩,m,rfl,hx,ti⟩:=Wo.o.1.elem Wo.o.2 ar;obtain rfl:sp=none:=(ti 0 (by omega)).1;have HX:=hid hx;have hki:(k:Int)<(S.length:Int):=by omega
     have XX:Hid (ff wr b v2 v3 v4 v5 (some ⟨blk,off,none⟩) c S gk ga gs gm M):=Fa.o.on xl.o;have CO:blk≠M:=(Fa.o.row blk rfl).resolve_right (by omega);have aZ:∀r,r<4->wr.cell? ⟨blk,off+(k*4+r),none⟩=some (.int .i64 (m r)):=fun r hr=>(xl.o.on (a:=⟨blk,off+(k*4+r),none⟩) ((ti r hr).lt) (by simpa using CO)).trans (ti r hr).2;have r0:=aZ 0 (by omega);have r1:=aZ 1 (by omega);have r2:=aZ 2 (by omega);have r3:=aZ 3 (by omega);simp only[Nat.add_zero,<-Nat.add_assoc]at r0 r1 r2 r3;obtain⟨wt,tq⟩:=ex1 (wr.alloc (.cells (cA m) 94));have BM:Hid (aD wt wr.heap.size 94 (cA m)):=fe tq;have KT:Hid (aa [M] wr wt):=by rw[<-tq];exact aa.alloc _ _ _
     have KT0:=hid (knew tq);have HMR:Hid (M<wr.heap.size):=Ng.o.1.lt;have HAt:Hid (ff wt b v2 v3 v4 v5 (some ⟨blk,off,none⟩) c S gk ga gs gm M):=XX.o.on KT.o;have HBt:Hid (aD wt w.heap.size 91 (tick s)):=KT.o.box (xl.o.box B1.o (by simp;have:=HMW.o;omega)) (by simp;have:=HMW.o;omega);have s0:=HAt.o.fs.c1;have s1:wt.cell? ⟨gs,1,none⟩=some (.int .i64 (N:Int)):=by have h:=HAt.o.fs.cell 1 rfl;rw[HN.o]at h;exact h
     obtain⟨-,-,s2,s3,s4,s5⟩:=HAt.o.fs.c6;obtain⟨b0,b1,b2,b3,b4⟩:=HBt.o.c5;obtain⟨m0,m1,m2,m3⟩:=BM.o.c4;have hC:=zY wt v2 v3 v4 b N HN.o tV.2 s m HS.o (Jt.o m (List.mem_of_getElem? hx));rw[HN.o]at hC;simp only[tick,cA]at hC tq;clear ti aZ hx;cases hwo:ak s m N with
     |none=>
      have HUP:Hid (gp N S s (k+1)=gp N S s k):=by unfold Hid;rw[qd HX.o];unfold dc;rw[hwo]
      rw[hwo]at hC;simp only[tick]at hC;clear hwo;go_wp2_with fail
      refine hC.mono ?_;rintro e w5 ⟨rfl,sy⟩;have xR:=hid sy;clear sy hC b0 b1 b2 b3 b4 m0 m1 m2 m3 s0 s1 s2 s3 s4 s5 r0 r1 r2 r3 tq;go_wp2_with fail
      refine⟨⟨k+1,by omega,by go_num,by rw[HUP.o],xl.o.trans' (KT.o.trans' ((aa.of xR.o).trans' (aa.alloc _ _ _))),D2,bj.on Ng.o.1 ?_,Ng.o.2⟩,by simp[intOf];omega⟩;exact((KT0.o.trans' (aa.of xR.o)).trans' (aa.alloc _ _ _)).block M HMR.o (by simp)
     |some r=>
      have S9:Hid (dn r):=ka HS.o hwo;have HRT:Hid (total r+N=total s):=cu (Jt.o m (List.mem_of_getElem? HX.o)) hwo;have HUP:Hid (gp N S s (k+1)=max (gp N S s k) (1+bg N S r)):=by unfold Hid;rw[qd HX.o];unfold dc;rw[hwo]
      rw[hwo]at hC;simp only[tick]at hC;clear hwo;go_wp2_with fail
      refine hC.mono ?_;rintro e w5 ⟨rfl,sy⟩;have xR:=hid sy;clear sy hC b0 b1 b2 b3 b4 m0 m1 m2 m3 s0 s1 s2 s3 s4 s5 r0 r1 r2 r3 tq;obtain⟨w6,hw6⟩:=ex1 (w5.alloc (.cells (tick r) 91));have BR:Hid (aD w6 w5.heap.size 91 (tick r)):=fe hw6;have K6:Hid (aa [] wr w6):=by rw[<-hw6];exact((KT0.o.trans' (aa.of xR.o)).trans' (aa.alloc _ _ _))
      have HA6:Hid (ff w6 b v2 v3 v4 v5 (some ⟨blk,off,none⟩) c S gk ga gs gm M):=XX.o.on (K6.o.mono (by simp));have HD6:Hid (bj w6 N S M D2):=bj.on Ng.o.1 (K6.o.block M HMR.o (by simp));have hC:=HIH.o w6 r D2 (by have:=HRT.o;have:=HF.o;omega) S9.o HA6.o HD6.o;obtain⟨mr,hmr⟩:∃mr:Nat,bg N S r=mr:=⟨_,rfl⟩
      have zb7:=hid hmr
      have zeN:mr<=15:=by
       have h1:bg N S r<=total r:=oD tV.1 Jt.o (total r+1) r;have h0:=S9.o 0 (by omega);have oV:=S9.o 1 (by omega);have h2:=S9.o 2 (by omega);have h3:=S9.o 3 (by omega);have h4:=S9.o 4 (by omega)
       have h5:total r<=15:=by unfold total;omega
       omega
      rw[hmr]at hC;have cm:=HA6.o.fm.cell 0 rfl;obtain⟨c0,c1,c2,c3,c4⟩:=BR.o.c5;have jK:wrap64 (1+(mr:Int))=1+(mr:Int):=by unfold wrap64;omega
      simp only[tick]at hw6 hC;clear hmr
      go_wp2_with(go_at_call 54
                  refine hC.mono ?_;rintro e w7 ⟨⟨rfl,D3,hD3,hU3⟩,CP⟩;have HD3:=hid hD3;have HU3:=hid hU3;have HK7:=hid CP;clear hD3 hU3 CP hC)
      refine⟨⟨k+1,by omega,by go_num,?_,xl.o.trans' ((K6.o.mono (by simp)).trans' HK7.o),D3,HD3.o,Ng.o.2.trans (HU3.o.mono (by have:=HRT.o;omega))⟩,by simp[intOf];omega⟩;rw[HUP.o,zb7.o];congr 1;omega
    .have e:k=S.length:=by omega
     subst e;have HB:Hid (aD wr w.heap.size 91 (tick s)):=xl.o.box B1.o (by simp;have:=HMW.o;omega);have XX:Hid (ff wr b v2 v3 v4 v5 a c S gk ga gs gm M):=Fa.o.on xl.o;have ck:=XX.o.fk.cell 0 rfl;obtain⟨b0,b1,b2,b3,b4⟩:=HB.o.c5;obtain⟨n2,OY,R5⟩:=Ng.o.1.own;have GU:=hid OY;have zb9:=hid R5;have zca:n2<=1024:=Nat.le_trans R5 (RL D2);have zcb:Hid (gp N S s S.length=mo):=by unfold Hid;rw[sL tV.1 Jt.o,OM.o]
     have MO:Hid (Maps.has D2 kl=false):=by unfold Hid;rw[Ng.o.2 s kl HS.o AG.o (Nat.le_refl _)];exact HH.o
     rw[zcb.o];clear OY R5
     go_wp2_with(at_mapUpdate
                 refine wpList_mapUpdate_own _ rfl _ _ _ 87 rfl 91 3 lB CF (plainElem ZP 3) M n2 D2 rfl GU.o (by unfold maxLen;omega) _ _ kl rfl rfl rJ (.lit (.int .i64 (mo:Int))) [] (plainElem_int ra (WalkArith.wf_i64 ⟨by omega,by omega⟩)) ?_;intro w9 OZ SK;have HO9:=hid OZ;have XY:Hid (aa [M] wr w9):=aa.grown SK fun k hk=>by cases hk;simp
                 clear OZ SK)
     go_ret;refine⟨⟨rfl,D2.put kl (.lit (.int .i64 (mo:Int))),?_,kD.put Ng.o.2 AG.o⟩,KA.o.trans' (xl.o.trans' XY.o)⟩;have h:=HO9.o;rw[<-OM.o]at h⊢;exact bj.put Jt.o Ng.o.1 zb9.o HS.o AG.o MO.o h
end Go.Proofs.Cz
