/- A part. Conditions: none. -/
import Derived.Test.YtddlcmejelobdaaGreatDoorT42
import Derived.Test.YtddlcmejelobdaaGreatDoorT44
set_option linter.all false
set_option maxHeartbeats 8000000
set_option maxRecDepth 100000
namespace Go.Proofs.Cz
open Go.RowKit Go.Maps
variable {D D1:DataW Unit} {M T c ga gk gm gs:Nat} {S:List (Nat->Int)} {a:Option Addr} {b:ab} {v2 v3 v4 v5:fu} {w w':nq}
def Og (w:nq):(zeroValue 3).run ZP w=.ok (.int .i64 0) w:=(Tz.cL 3 w).trans (Tryz.zeroValue3 w)
def mq (D D':DataW Unit) (T:Nat):Prop:=∀t kt,dN t->keyOf ZP 91 (.agg (tick t))=some kt->T<=total t->Maps.has D' kt=Maps.has D kt
def mq.refl (D:DataW Unit) (T:Nat):mq D D T:=λ_ _ _ _ _=>rfl
def mq.trans {D2:DataW Unit} (h:mq D D1 T) (k:mq D1 D2 T):mq D D2 T:=λt kt h1 h2 h3=>(k t kt h1 h2 h3).trans (h t kt h1 h2 h3)
def mq.mono {T':Nat} (h:mq D D1 T) (ht:T<=T'):mq D D1 T':=λt kt h1 h2 h3=>h t kt h1 h2 (by omega)
def mq.put {s:Nat->Int} {kl:Lit} {d:DataW Unit} (h:mq D D1 (total s)) (hk:keyOf ZP 91 (.agg (tick s))=some kl):mq D (D1.put kl d) (total s+1):=λt kt h1 h2 h3=>by
 have bC:kt≠kl:=λe=>by
  subst e;have h4:=nk.inj h2 hk;have h5:=(wd (s:=t) (t:=s) (by simpa using h4)).total;omega
 rw[has_put_other bC];exact h t kt h1 h2 (by omega)
structure gh (w:nq) (b:ab) (v2 v3 v4 v5:fu) (a:Option Addr) (c:Nat) (S:List (Nat->Int)) (gk ga gs gm M:Nat):Prop where
 fk:aA w gk 87 #[.map (some M)]
 fa:aA w ga 85 #[.slice a S.length c]
 fs:aA w gs 81 #[.int .i64 b.ak,.int .i64 b.ah,v2,v3,v4,v5]
 fm:aA w gm 88 #[.func (.func 54) #[] #[ptr gk,ptr ga,ptr gs,ptr gm]]
 fv:bW 4 w (.slice a S.length c) S
 ne:gk≠M/\ga≠M/\gs≠M/\gm≠M
 row:∀j,(Value.slice a S.length c).ownBlock=some j->j≠M\/c=0
def bW.on0 (h:bW 4 w (.slice a S.length c) S) (hr:∀j,(Value.slice a S.length c).ownBlock=some j->j≠M\/c=0) (hk:aa [M] w w'):bW 4 w' (.slice a S.length c) S:=by
 by_cases h0:c=0
 .subst h0;obtain⟨a',c',h1,_⟩:=h;have he:=h1.eq;simp only[Value.slice.injEq,zCK]at he;obtain⟨rfl,rfl⟩:=he;have hn:S=[]:=zBZ (by have:=h1.le;omega);subst hn;exact⟨a,0,⟨rfl,h1.le,h1.Q5,h1.nil,λb hb=>.inl rfl⟩,λb hb j t hj=>by cases hj⟩
 .exact h.on λj hj av=>hk.block j av (by simpa using(hr j hj).resolve_right h0)
def gh.on (h:gh w b v2 v3 v4 v5 a c S gk ga gs gm M) (hk:aa [M] w w'):gh w' b v2 v3 v4 v5 a c S gk ga gs gm M:=
 ⟨hk.box h.fk (by simpa using h.ne.1),hk.box h.fa (by simpa using h.ne.2.1),hk.box h.fs (by simpa using h.ne.2.2.1),hk.box h.fm (by simpa using h.ne.2.2.2),h.fv.on0 h.row hk,h.ne,h.row⟩
def gh.on2 {P:Nat} (h:gh w b v2 v3 v4 v5 a c S gk ga gs gm M) (hk:aa [P] w w') (hP:gk≠P/\ga≠P/\gs≠P/\gm≠P) (hr:∀j,(Value.slice a S.length c).ownBlock=some j->j≠P\/c=0):gh w' b v2 v3 v4 v5 a c S gk ga gs gm M:=
 ⟨hk.box h.fk (by simpa using hP.1),hk.box h.fa (by simpa using hP.2.1),hk.box h.fs (by simpa using hP.2.2.1),hk.box h.fm (by simpa using hP.2.2.2),h.fv.on0 hr hk,h.ne,h.row⟩
def Oh (b:ab) (N:Nat) (hN:b.ah=N) (rN:1<=N/\N<=4) (v2 v3 v4 v5:fu) (a:Option Addr) (c:Nat) (S:List (Nat->Int)) (hS:∀m∈S,∀i,i<N->0<=m i/\m i<5) (gk ga gs gm M:Nat):
 ∀(f:Nat) (w:nq) (s:Nat->Int) (D:DataW Unit),total s<f->dN s->gh w b v2 v3 v4 v5 a c S gk ga gs gm M->bE w N S M D->
  Calls ZP 54 #[.agg (tick s),ptr gk,ptr ga,ptr gs,ptr gm] w (λe w'=>(e=.returned (.int .i64 (ci N S s:Nat))/\∃D',bE w' N S M D'/\mq D D' (total s+1))/\aa [M] w w'):=by
 intro f;induction f with
 |zero=>intro w s D h;omega
 |succ f ih=>
  intro w s D hf hs hA hK;have HA:=hid hA;have HK:=hid hK;have HS:Hid (dN s):=hs;have Nv:=hid hS;have HN:=hid hN;have HF:=hid hf
  have HIH:Hid (∀(w:nq) (s:Nat->Int) (D:DataW Unit),total s<f->dN s->gh w b v2 v3 v4 v5 a c S gk ga gs gm M->bE w N S M D->
   Calls ZP 54 #[.agg (tick s),ptr gk,ptr ga,ptr gs,ptr gm] w (λe w'=>(e=.returned (.int .i64 (ci N S s:Nat))/\∃D',bE w' N S M D'/\mq D D' (total s+1))/\aa [M] w w')):=ih
  obtain⟨kl,rk⟩:=KJ s hs;have vD:=hid rk;obtain⟨mo,j7⟩:∃mo:Nat,ci N S s=mo:=⟨_,rfl⟩
  have Rk:=hid j7
  have zjH:mo<=15:=by
   have h1:=v6 rN.1 hS (total s+1) s;have h0:=hs 0 (by omega);have si:=hs 1 (by omega);have h2:=hs 2 (by omega);have h3:=hs 3 (by omega);have h4:=hs 4 (by omega)
   have h5:total s<=15:=by unfold total;omega
   have h6:ci N S s<=total s:=h1;omega
  rw[j7];obtain⟨A1,bh⟩:=ex1 (w.alloc (.cells (tick s) 91));have B1:Hid (aA A1 w.heap.size 91 (tick s)):=eC bh;have KA:Hid (aa [M] w A1):=by rw[<-bh];exact aa.alloc _ _ _
  have Jv:Hid (gh A1 b v2 v3 v4 v5 a c S gk ga gs gm M):=HA.o.on KA.o;have hMw:=HK.o.lt;have HMW:=hid hMw;have RN:Hid (bE A1 N S M D):=HK.o.on (by rw[<-bh];exact(aa.alloc [] w _).block M hMw (by simp));have hc5:(tick s).toList=[.int .i64 (s 0),.int .i64 (s 1),.int .i64 (s 2),.int .i64 (s 3),.int .i64 (s 4)]:=rfl;obtain⟨b0,b1,b2,b3,b4⟩:=B1.o.c5;have ck:=Jv.o.fk.cell 0 rfl;obtain⟨n,bQ,Ti⟩:=RN.o.own;have Ko:=hid bQ;have HNC:Hid (n<=cnt D):=Ti;simp only[tick]at bh rk⊢;clear hA hK hs hf ih j7 bQ Ti hS hN hMw hc5;have CE:=RN.o.Xr s HS.o kl vD.o;cases hh:Maps.has D kl with
  |true=>
   have Xs:=CE hh;rw[Rk.o]at Xs;have HAT:=hid Xs;have HH:=hid hh;clear CE Xs;go_enter ZF54,Tryz.ntmps54
   go_wp2_with(at_lookup
               refine wpList_lookup_own_ok_int _ rfl _ _ 87 rfl 91 3 .i64 nk GE tZ (Og _) M n D rfl Ko.o _ _ rfl rk ?_;intro cv zO hwc;rw[HAT.o]at zO;obtain rfl:(mo:Int)=cv:=by simpa using zO
               rw[hh];clear zO hwc)
   go_ret;exact⟨⟨rfl,D,RN.o,mq.refl _ _⟩,KA.o⟩
  |false=>
   have HH:=hid hh;have HAT:Hid (D.atKey kl (.lit (.int .i64 0))=(.lit (.int .i64 0):DataW Unit)):=atKey_of_not_has hh _;have ca:=Jv.o.fa.cell 0 rfl;clear CE;go_enter ZF54,Tryz.ntmps54
   go_wp2_with(at_lookup
               refine wpList_lookup_own_ok_int _ rfl _ _ 87 rfl 91 3 .i64 nk GE tZ (Og _) M n D rfl Ko.o _ _ rfl rk ?_;intro cv zO hwc;rw[HAT.o]at zO;obtain rfl:(0:Int)=cv:=by simpa using zO
               rw[hh];clear zO hwc)
   obtain⟨va,vc,sr,hve⟩:=Jv.o.fv;have hvq:=sr.eq;simp only[Value.slice.injEq,zCK]at hvq;obtain⟨rfl,rfl⟩:=hvq;have Yr:Hid (bT A1 (.slice a S.length c) S.length a c/\∀d,a=some d->∀(j:Nat) (t:Nat->Int),S[j]?=some t->∀r,r<4->At A1 d (j*4+r) (.int .i64 (t r))):=⟨sr,hve⟩
   have znK:=sr.le;have zbK:=sr.Q5;unfold maxLen at zbK;clear sr hve bh;go_loopw [23,7] (λi u wr=>∃(k:Nat),k<=S.length/\i=.int .i64 k/\u=.int .i64 (im N S s k:Nat)/\Hid (aa [M] A1 wr)/\∃D2,Hid (bE wr N S M D2/\mq D D2 (total s))) (λi _ _=>S.length-(intOf i).toNat)
   case atStart=>exact⟨0,zAM _,rfl,by rw[DX];rfl,aa.refl _ _,D,RN.o,mq.refl _ _⟩
   case round=>
    obtain⟨k,hk,rfl,rfl,qB,D2,Sh⟩:=hrel;by_cases av:k<S.length
    .obtain⟨⟨blk,off,sp⟩,m,rfl,hx,ov⟩:=Yr.o.1.elem Yr.o.2 av;obtain rfl:sp=none:=(ov 0 (by omega)).1;have HX:=hid hx;have hki:(k:Int)<(S.length:Int):=by omega
     have HAr:Hid (gh wr b v2 v3 v4 v5 (some ⟨blk,off,none⟩) c S gk ga gs gm M):=Jv.o.on qB.o;have GF:blk≠M:=(Jv.o.row blk rfl).resolve_right (by omega);have bu:∀r,r<4->wr.cell? ⟨blk,off+(k*4+r),none⟩=some (.int .i64 (m r)):=λr hr=>(qB.o.on (a:=⟨blk,off+(k*4+r),none⟩) ((ov r hr).lt) (by simpa using GF)).trans (ov r hr).2;have r0:=bu 0 (by omega);have r1:=bu 1 (by omega);have r2:=bu 2 (by omega);have r3:=bu 3 (by omega);simp only[zDX,<-zBD]at r0 r1 r2 r3;obtain⟨wt,rO⟩:=ex1 (wr.alloc (.cells (bY m) 94));have BM:Hid (aA wt wr.heap.size 94 (bY m)):=eC rO;have KT:Hid (aa [M] wr wt):=by rw[<-rO];exact aa.alloc _ _ _
     have KT0:=hid (knew rO);have HMR:Hid (M<wr.heap.size):=Sh.o.1.lt;have HAt:Hid (gh wt b v2 v3 v4 v5 (some ⟨blk,off,none⟩) c S gk ga gs gm M):=HAr.o.on KT.o;have HBt:Hid (aA wt w.heap.size 91 (tick s)):=KT.o.box (qB.o.box B1.o (by simp;have:=HMW.o;omega)) (by simp;have:=HMW.o;omega);have s0:=HAt.o.fs.c1;have s1:wt.cell? ⟨gs,1,none⟩=some (.int .i64 (N:Int)):=by have h:=HAt.o.fs.cell 1 rfl;rw[HN.o]at h;exact h
     obtain⟨-,-,s2,s3,s4,s5⟩:=HAt.o.fs.c6;obtain⟨b0,b1,b2,b3,b4⟩:=HBt.o.c5;obtain⟨m0,m1,m2,m3⟩:=BM.o.c4;have hC:=DY wt v2 v3 v4 b N HN.o rN.2 s m HS.o (Nv.o m (zBI hx));rw[HN.o]at hC;simp only[tick,bY]at hC rO;clear ov bu hx;cases hwo:au s m N with
     |none=>
      have HUP:Hid (im N S s (k+1)=im N S s k):=by unfold Hid;rw[sN HX.o];unfold dE;rw[hwo]
      rw[hwo]at hC;simp only[tick]at hC;clear hwo;go_wp2_with fail
      refine hC.mono ?_;rintro e w5 ⟨rfl,yD⟩;have Eu:=hid yD;clear yD hC b0 b1 b2 b3 b4 m0 m1 m2 m3 s0 s1 s2 s3 s4 s5 r0 r1 r2 r3 rO;go_wp2_with fail
      refine⟨⟨k+1,by omega,by go_num,by rw[HUP.o],qB.o.trans' (KT.o.trans' ((aa.of Eu.o).trans' (aa.alloc _ _ _))),D2,bE.on Sh.o.1 ?_,Sh.o.2⟩,by simp[intOf];omega⟩;exact((KT0.o.trans' (aa.of Eu.o)).trans' (aa.alloc _ _ _)).block M HMR.o (by simp)
     |some r=>
      have Yz:Hid (dN r):=lJ HS.o hwo;have HRT:Hid (total r+N=total s):=du (Nv.o m (zBI HX.o)) hwo;have HUP:Hid (im N S s (k+1)=max (im N S s k) (1+ci N S r)):=by unfold Hid;rw[sN HX.o];unfold dE;rw[hwo]
      rw[hwo]at hC;simp only[tick]at hC;clear hwo;go_wp2_with fail
      refine hC.mono ?_;rintro e w5 ⟨rfl,yD⟩;have Eu:=hid yD;clear yD hC b0 b1 b2 b3 b4 m0 m1 m2 m3 s0 s1 s2 s3 s4 s5 r0 r1 r2 r3 rO;obtain⟨w6,hw6⟩:=ex1 (w5.alloc (.cells (tick r) 91));have BR:Hid (aA w6 w5.heap.size 91 (tick r)):=eC hw6;have K6:Hid (aa [] wr w6):=by rw[<-hw6];exact((KT0.o.trans' (aa.of Eu.o)).trans' (aa.alloc _ _ _))
      have HA6:Hid (gh w6 b v2 v3 v4 v5 (some ⟨blk,off,none⟩) c S gk ga gs gm M):=HAr.o.on (K6.o.mono (by simp));have HD6:Hid (bE w6 N S M D2):=bE.on Sh.o.1 (K6.o.block M HMR.o (by simp));have hC:=HIH.o w6 r D2 (by have:=HRT.o;have:=HF.o;omega) Yz.o HA6.o HD6.o;obtain⟨mr,hmr⟩:∃mr:Nat,ci N S r=mr:=⟨_,rfl⟩
      have zg5:=hid hmr
      have zjO:mr<=15:=by
       have h1:ci N S r<=total r:=v6 rN.1 Nv.o (total r+1) r;have h0:=Yz.o 0 (by omega);have si:=Yz.o 1 (by omega);have h2:=Yz.o 2 (by omega);have h3:=Yz.o 3 (by omega);have h4:=Yz.o 4 (by omega)
       have h5:total r<=15:=by unfold total;omega
       omega
      rw[hmr]at hC;have cm:=HA6.o.fm.cell 0 rfl;obtain⟨c0,c1,c2,c3,c4⟩:=BR.o.c5;have iO:wrap64 (1+(mr:Int))=1+(mr:Int):=by unfold wrap64;omega
      simp only[tick]at hw6 hC;clear hmr
      go_wp2_with(go_at_call 54
                  refine hC.mono ?_;rintro e w7 ⟨⟨rfl,D3,hD3,hU3⟩,hk7⟩;have HD3:=hid hD3;have HU3:=hid hU3;have Oi:=hid hk7;clear hD3 hU3 hk7 hC)
      refine⟨⟨k+1,by omega,by go_num,?_,qB.o.trans' ((K6.o.mono (by simp)).trans' Oi.o),D3,HD3.o,Sh.o.2.trans (HU3.o.mono (by have:=HRT.o;omega))⟩,by simp[intOf];omega⟩;rw[HUP.o,zg5.o];congr 1;omega
    .have e:k=S.length:=by omega
     subst e;have HB:Hid (aA wr w.heap.size 91 (tick s)):=qB.o.box B1.o (by simp;have:=HMW.o;omega);have HAr:Hid (gh wr b v2 v3 v4 v5 a c S gk ga gs gm M):=Jv.o.on qB.o;have ck:=HAr.o.fk.cell 0 rfl;obtain⟨b0,b1,b2,b3,b4⟩:=HB.o.c5;obtain⟨n2,Un,Xt⟩:=Sh.o.1.own;have vq:=hid Un;have zg6:=hid Xt;have zg7:n2<=1024:=zAP Xt (Xq D2);have zg8:Hid (im N S s S.length=mo):=by unfold Hid;rw[vZ rN.1 Nv.o,Rk.o]
     have Rh:Hid (Maps.has D2 kl=false):=by unfold Hid;rw[Sh.o.2 s kl HS.o vD.o (zAB _)];exact HH.o
     rw[zg8.o];clear Un Xt
     go_wp2_with(at_mapUpdate
                 refine wpList_mapUpdate_own _ rfl _ _ _ 87 rfl 91 3 nk GE (plainElem ZP 3) M n2 D2 rfl vq.o (by unfold maxLen;omega) _ _ kl rfl rfl rk (.lit (.int .i64 (mo:Int))) [] (plainElem_int tZ (WalkArith.wf_i64 ⟨by omega,by omega⟩)) ?_;intro w9 Uo X7;have HO9:=hid Uo;have HK9:Hid (aa [M] wr w9):=aa.grown X7 λk hk=>by cases hk;simp
                 clear Uo X7)
     go_ret;refine⟨⟨rfl,D2.put kl (.lit (.int .i64 (mo:Int))),?_,mq.put Sh.o.2 vD.o⟩,KA.o.trans' (qB.o.trans' HK9.o)⟩;have h:=HO9.o;rw[<-Rk.o]at h⊢;exact bE.put Nv.o Sh.o.1 zg6.o HS.o vD.o Rh.o h
end Go.Proofs.Cz
