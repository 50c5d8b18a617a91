/- A part. Conditions: none. -/
import Derived.Test.YtddlcmejelobdaaGreatDoorT34
import Derived.Laws.CopyOwn
set_option linter.all false
set_option maxHeartbeats 8000000
set_option maxRecDepth 100000
namespace Go.Proofs.Cz
open Go.RowKit
variable {b:ab}
def DH:∀(l:List Int),l.length<=4->splice (bY λ_=>0).toList 0 (l.map (Value.int .i64))=(bY (ac l)).toList
 | [],_=>rfl
 | [_],_=>rfl
 | [_,_],_=>rfl
 | [_,_,_],_=>rfl
 | [_,_,_,_],_=>rfl
 |_::_::_::_::_::_,h=>by simp at h
def Xi:(ZP.info? 3).map (·.size)=some 1:=by
 have h:(ZP.info? 3).map (λi=>(i.zero,i.size,i.bytes))=some (some (.int .i64 0),1,8):=ow;cases hi:ZP.info? 3 with
 |none=>rw[hi]at h;cases h
 |some i=>rw[hi]at h;simp at h;rw[zBA,h.2.1]
def ox (w:nq) (v:fu) (l:List Int) (hl:l.length<=4) (h:ao w v l):Calls ZP 61 #[v] w (bK w (.agg (bY (ac l)))):=by
 obtain⟨a,c,h1,h2⟩:=h;have H:Hid (bT w v l.length a c/\∀b,a=some b->∀j x,l[j]?=some x->At w b j (.int .i64 x)):=⟨h1,h2⟩
 obtain⟨rfl,l1,m1,n1,r1⟩:=h1;obtain⟨A1,bh⟩:=ex1 (w.alloc (.cells #[.int .i64 0,.int .i64 0,.int .i64 0,.int .i64 0] 94));obtain⟨A2,bL⟩:=ex1 (A1.alloc (.cells #[.int .i64 0,.int .i64 0,.int .i64 0,.int .i64 0] 94));have eL:=snew bh;have nS:=knew bh;have f7:=knew bL;have B1:Hid (aA A2 w.heap.size 94 (bY λ_=>0)):=f7.box (by rw[<-bh];exact aA.new _ _ _) (by simp);have B2:=bnew2 bL eL;have hk:aa [] w A2:=nS.trans f7 (by simp);have HKP:Hid (Kp w A2):=λk Bg=>hk.block k Bg (by simp);have HW:Hid (Below w.heap.size w A2):=hk.below (by simp) (zAB _);have HS:Hid (A2.heap.size=w.heap.size+2):=(by rw[<-bL];simp[eL]:A2.heap.size=w.heap.size+2)
 have HSL:=hid hl;have u32:=gO;clear h2 n1 r1 nS f7 hk;go_enter ZF61,Tryz.ntmps61
 go_wp2_with(refine wpList_copy_splice rfl (.tmp 4) (.tmp 5) 35 35 rfl 3 u32 Xi (some ⟨w.heap.size+1,0,none⟩) a 4 4 l.length c rfl rfl (w.heap.size+1) 0 (bY λ_=>0).toList 94 B2.o (l.map (Value.int .i64)) (by rw[zDM];exact(Nat.min_eq_left hl).symm) ?_ (by rw[zDM];show 0+l.length<=4;omega) (λv hv=>by obtain⟨x,_,rfl⟩:=zBO.1 hv;rfl) (w.heap.size+1) A2 (Below.refl _ _) (zAB _) ?_)
 .intro hp;have h0:0<l.length:=by simpa using hp
  obtain⟨b,x,rfl,_,xE⟩:=H.o.1.elem H.o.2 h0;refine⟨b,rfl,λj v hj=>?_⟩;have h3:=(H.o.2 b rfl j v hj).later HKP.o;obtain⟨bb,bo,bs⟩:=b;obtain rfl:bs=none:=h3.1;rw[show(⟨bb,bo,none⟩:Addr).add j=⟨bb,bo+j,none⟩ by unfold Addr.add;split<;>simp_all];exact h3.2
 .intro w2 hG2 hB2;have gW:=hid hB2
  have LA:Hid (aA w2 (w.heap.size+1) 94 (bY (ac l))):=by
   have h:=hG2.o;rw[DH l HSL.o]at h;exact h
  have Ys:Hid (aA w2 w.heap.size 94 (bY λ_=>0)):=(hB2.block _ (by omega)).trans B1.o;obtain⟨z0,z1,z2,z3⟩:=LA.o.c4;have f0:=Ys.o.aH 0;have f1:=Ys.o.aH 1;have f2:=Ys.o.aH 2;have f3:=Ys.o.aH 3;obtain⟨y0,y1,y2,y3⟩:=Ys.o.c4;clear hB2 hG2 bh bL eL;go_wp2
  obtain⟨WF,pB⟩:=ex1 (((((w2.setCell ⟨w.heap.size,0,none⟩ (.int .i64 (ac l 0))).setCell ⟨w.heap.size,1,none⟩ (.int .i64 (ac l 1))).setCell ⟨w.heap.size,2,none⟩ (.int .i64 (ac l 2))).setCell ⟨w.heap.size,3,none⟩ (.int .i64 (ac l 3))))
  have lW:aA WF w.heap.size 94 #[.int .i64 (ac l 0),.int .i64 (ac l 1),.int .i64 (ac l 2),.int .i64 (ac l 3)]:=by
   rw[<-pB];exact(((Ys.o.set 0 _).set 1 _).set 2 _).set 3 _
  have tX:aa [w.heap.size] w2 WF:=by
   rw[<-pB];exact((((aa.set w2 (by simp) _).trans' (aa.set _ (by simp) _)).trans' (aa.set _ (by simp) _)).trans' (aa.set _ (by simp) _))
  have cr:=gW.o.size;have hs:=HS.o;have xt:Below w.heap.size w WF:=HW.o.trans ((gW.o.mono (by omega)).trans (tX.below (by simp) (by omega)));obtain⟨u0,u1,u2,u3⟩:=lW.c4;rw[pB];refine bodyPost_ret (v:=.agg (bY (ac l))) ?_ rfl ⟨rfl,xt⟩;rw[ew rfl];go_simp;simp[bY]
def jC (m t:Nat->Int):Nat->Int
 |0=>0
 |k+1=>wrap64 (jC m t k+t (m k).toNat)
def vK {m t:Nat->Int} (ht:∀i,0<=t i/\t i<=20):∀k:Nat,k<=1000->jC m t k=aG m t k
 |0,_=>rfl
 |k+1,h=>by
  have h1:=rM (m:=m) ht (k+1);have h2:=vK (m:=m) ht k (by omega);have e1:aG m t (k+1)=aG m t k+t (m k).toNat:=rfl;have e2:jC m t (k+1)=wrap64 (jC m t k+t (m k).toNat):=rfl;rw[e2,h2,<-e1];unfold wrap64;omega
def Ku (w:nq) (v2 v3 v4:fu) (b:ab) (N:Nat) (hN:b.ah=N) (rN:N<=4) (m t:Nat->Int) (hm:∀i,i<N->0<=m i/\m i<5):
 Calls ZP 117 #[.agg #[.int .i64 b.ak,.int .i64 b.ah,v2,v3,v4],.agg (bY m),.agg (tick t)] w (bK w (.int .i64 (jC m t N))):=by
 rw[hN];obtain⟨A1,bh⟩:=ex1 (w.alloc (.cells #[.int .i64 b.ak,.int .i64 N,v2,v3,v4] 78));obtain⟨A2,bL⟩:=ex1 (A1.alloc (.cells (bY m) 94));obtain⟨A3,gP⟩:=ex1 (A2.alloc (.cells (tick t) 130));have eL:=snew bh;have j8:=snew2 bL eL
 have b1:aA A3 w.heap.size 78 #[.int .i64 b.ak,.int .i64 N,v2,v3,v4]:=by
  rw[<-gP];refine(aa.alloc [] _ _).box ?_ (by simp);rw[<-bL];refine(aa.alloc [] _ _).box ?_ (by simp);rw[<-bh];exact aA.new _ _ _
 have B2:Hid (aA A3 (w.heap.size+1) 94 (bY m)):=by
  rw[<-gP];refine(aa.alloc [] _ _).box ?_ (by simp);rw[<-bL,<-eL];exact aA.new _ _ _
 have B3:=bnew2 gP j8;have HW:=wnew3 bh bL gP;obtain⟨-,z1⟩:=b1.c2;simp only[bY,tick]at bL gP⊢;clear b1 hN;go_enter ZF117,Tryz.ntmps117
 go_wp2
 clear bh bL gP eL j8;go_loop [12,8,7] (λi _ s=>∃k:Nat,k<=N/\i=.int .i64 k/\s=.int .i64 (jC m t k)) (λi _ _=>N-(intOf i).toNat)
 case atStart=>exact⟨0,zAM _,rfl,rfl⟩
 case round=>
  obtain⟨k,hk,rfl,rfl⟩:=hrel;by_cases av:k<N
  .have mw:k<4:=by omega
   have c2:A3.cell? ⟨w.heap.size+1,k,none⟩=some (.int .i64 (m k)):=B2.o.cell k (fR mw _);obtain⟨j,hj⟩:∃j:Nat,m k=(j:Int):=⟨(m k).toNat,by have:=(hm k av).1;omega⟩
   have Ry:j<5:=by have:=(hm k av).2;omega
   rw[hj]at c2;have c3:A3.cell? ⟨w.heap.size+1+1,j,none⟩=some (.int .i64 (t j)):=B3.o.cell j (dV Ry _);have HS:Hid (jC m t (k+1)=wrap64 (jC m t k+t j)):=by show wrap64 (jC m t k+t (m k).toNat)=_;rw[hj];simp
   generalize jC m t k=s at*;generalize t j=tj at*;go_wp2
   go_round
   case rel=>exact⟨k+1,by omega,by go_num,by rw[HS.o]⟩
   case measure=>simp[intOf];omega
  .have e:k=N:=by omega
   subst e;go_wp2
   go_ret;exact⟨rfl,HW.o⟩
def fD (N:Nat) (t:Nat->Int) (x:eH):Bool:=decide (x.lo<=jC (ac x.ptz) t N)&&decide (jC (ac x.ptz) t N<=x.hi)
def aj (b:ab) (t:Nat->Int):Bool:=b.aX.all (fD b.ah.toNat t)
def yS {l:List Int} (hm:b.ptz.length<=5) (h:cO b l):∀i,i<b.ah.toNat->0<=ac l i/\ac l i<5:=λi hi=>by
 have hl:=h.len;have e:l[i]?=some (l[i]'(by omega)):=zAJ (by omega);have h1:=h.range i _ (by omega) e;unfold ac;rw[e];simp only[zAC];omega
def Kv (w:nq) (v2 v3 v4 vl:fu) (b:ab) (x:eH) (g1 g2:Nat) (N:Nat) (hN:b.ah=N) (rN:N<=4) (t:Nat->Int) (hx:x.ptz.length<=4) (hm:∀i,i<N->0<=ac x.ptz i/\ac x.ptz i<5)
 (h1:aA w g1 78 #[.int .i64 b.ak,.int .i64 b.ah,v2,v3,v4]) (h2:aA w g2 130 (tick t)) (hl:ao w vl x.ptz):
 Calls ZP 157 #[.agg #[vl,.int .i64 x.lo,.int .i64 x.hi],ptr g1,ptr g2] w (dq w λr=>r=!fD N t x):=by
 obtain⟨la,lc,⟨rfl,ll,lm,ln,lr⟩,le⟩:=hl;have HL:Hid (ao w (.slice la x.ptz.length lc) x.ptz):=⟨la,lc,⟨rfl,ll,lm,ln,lr⟩,le⟩
 clear ll lm ln lr le;obtain⟨A1,bh⟩:=ex1 (w.alloc (.cells #[.slice la x.ptz.length lc,.int .i64 x.lo,.int .i64 x.hi] 56));have B1:=(bnew bh).o;have HW:=wnew bh;have C1:aA A1 g1 78 #[.int .i64 b.ak,.int .i64 b.ah,v2,v3,v4]:=h1.below HW.o h1.lt;have C2:aA A1 g2 130 (tick t):=h2.below HW.o h2.lt;have CO:=C1.lt;have xf:=C2.lt;have znf:=B1.lt;obtain⟨X0,X1,X2⟩:=B1.a3;obtain⟨Y0,Y1,Y2,Y3,Y4⟩:=C1.a5;obtain⟨Z0,Z1,Z2,Z3,Z4⟩:=C2.a5
 have c64:∀X:am A1,Calls ZP 61 #[.slice la x.ptz.length lc] X.1 (λe jy=>e=.returned (.agg #[.int .i64 (ac x.ptz 0),.int .i64 (ac x.ptz 1),.int .i64 (ac x.ptz 2),.int .i64 (ac x.ptz 3)])/\∃Y:am A1,jy=Y.1):=λX=>
  (ox _ _ _ hx ((HL.o.later (Kp.of HW.o)).later X.kp)).mono λe w' h=>⟨h.1,X.on h.2⟩
 have zgu:∀X:am A1,Calls ZP 117 #[.agg #[.int .i64 b.ak,.int .i64 b.ah,v2,v3,v4],.agg #[.int .i64 (ac x.ptz 0),.int .i64 (ac x.ptz 1),.int .i64 (ac x.ptz 2),.int .i64 (ac x.ptz 3)],
  .agg #[.int .i64 (t 0),.int .i64 (t 1),.int .i64 (t 2),.int .i64 (t 3),.int .i64 (t 4)]] X.1 (λe jy=>e=.returned (.int .i64 (jC (ac x.ptz) t N))/\∃Y:am A1,jy=Y.1):=λX=>
  (Ku _ _ _ _ _ N hN rN _ _ hm).mono λe w' h=>⟨h.1,X.on h.2⟩
 have c75:∀X:am A1,Calls ZP 115 #[.int .i64 (jC (ac x.ptz) t N),.int .i64 x.lo,.int .i64 x.hi] X.1 (λe jy=>e=.returned (.bool (fD N t x))/\∃Y:am A1,jy=Y.1):=λX=>
  (dd _ _ _ _).mono λe w' h=>⟨h.1,X.same h.2⟩
 generalize jC (ac x.ptz) t N=tk at*;generalize fD N t x=r at*;clear h1 h2 B1 C1 C2 hm hN;go_enter ZF157,Tryz.ntmps157
 go_wp2
 refine ap (by kernel_rfl) (by kernel_rfl) ?_;repeat(go_big_quiet_step (first|(go_at_call 61;exact c64 _)|(go_at_call 117;exact zgu _)|(go_at_call 115;exact c75 _)))
 refine wpQuiet_nil ?_;rintro _ ⟨X,rfl⟩;go_wp2
 go_ret;exact dq.mk rfl (HW.o.trans (X.2.mono HW.o.size))
def zbp (f:eH->Bool) (l:List eH) (k:Nat):Prop:=∀x∈l.take k,f x=true
def AK (w:nq) (v v2 v3 v4:fu) (b:ab) (g1 g2:Nat) (N:Nat) (hN:b.ah=N) (rN:N<=4) (t:Nat->Int) (l:List eH)
 (hl:∀x∈l,x.ptz.length<=4/\∀i,i<N->0<=ac x.ptz i/\ac x.ptz i<5)
 (h1:aA w g1 78 #[.int .i64 b.ak,.int .i64 b.ah,v2,v3,v4]) (h2:aA w g2 130 (tick t)) (h:dB w v l):
 Calls ZP 165 #[v,.func (.func 157) #[] #[ptr g1,ptr g2]] w (br w λr=>0<=r↔¬∀x∈l,fD N t x=true):=by
 obtain⟨a,c,h3,h4⟩:=h;have H:Hid (bT w v l.length a c/\_):=⟨h3,h4⟩
 have H1:=hid h1;have H2:=hid h2;have HT:=hid hl;have HN:=hid hN;obtain⟨rfl,l1,m1,n1,r1⟩:=h3;unfold maxLen at m1;clear h4 n1 r1 h1 h2 hl hN;go_enter ZF165,Tryz.ntmps165
 go_wp2
 go_loopw [8,5] (λi j w1=>∃k:Nat,k<=l.length/\Hid (zbp (fD N t) l k)/\i=.int .i64 k/\Hid (Below w.heap.size w w1)) (λi _ _=>l.length-(intOf i).toNat)
 case atStart=>exact⟨0,zAM _,λx hx=>by simp at hx,rfl,Below.refl _ _⟩
 case round=>
  obtain⟨k,hk,hA,rfl,hB⟩:=hrel;by_cases av:k<l.length
  .obtain⟨⟨blk,off,sp⟩,x,rfl,hx,⟨vf,x0,x6⟩,x1,x2⟩:=H.o.1.elem H.o.2 av;obtain rfl:sp=none:=x0.1;have Yt:=x6;obtain⟨af,cf,hf,_⟩:=x6;obtain⟨rfl,lf,mf,_,_⟩:=hf;have y0:=(x0.later (Kp.of hB.o)).2;have y1:=(x1.later (Kp.of hB.o)).2;have y2:=(x2.later (Kp.of hB.o)).2;simp only[<-zBD]at y0 y1 y2;have f7:(k:Int)<(l.length:Int):=by omega
   have HX:=hid hx;have wP:=HT.o x (zBI hx);have hC:=Kv wr v2 v3 v4 _ b x g1 g2 N HN.o rN t wP.1 wP.2 (H1.o.below hB.o H1.o.lt) (H2.o.below hB.o H2.o.lt) (Yt.later (Kp.of hB.o));clear x0 x1 x2 hx wP Yt;cases hr:fD N t x with
   |true=>
    rw[hr]at hC;have HR:=hid hr;clear hr;go_wp2_with(go_at_call 157;refine hC.mono ?_;rintro e w1 ⟨⟨r,rfl,rfl⟩,bq⟩)
    go_round
    case rel=>
     refine⟨k+1,by omega,λy hy=>?_,by go_num,hB.o.trans (bq.mono hB.o.size)⟩;rw[zBR,HX.o]at hy;rcases zCH.1 hy with hy|hy
     .exact hA.o y hy
     .simp at hy;subst hy;exact HR.o
    case measure=>simp[intOf];omega
   |false=>
    rw[hr]at hC;have HR:=hid hr;clear hr;go_wp2_with(go_at_call 157;refine hC.mono ?_;rintro e w1 ⟨⟨r,rfl,rfl⟩,bq⟩)
    go_ret;refine br.mk (r:=k) ⟨λ_ hh=>?_,λ_=>by omega⟩ (hB.o.trans (bq.mono hB.o.size));have:=hh x (zBI HX.o);rw[HR.o]at this;cases this
  .go_wp2
   go_ret;have e:k=l.length:=by omega
   subst e;refine br.mk (r:=-1) ⟨λh=>by omega,λhh=>absurd (λx hx=>hA.o x (by rw[zCU];exact hx)) hh⟩ hB.o
def AL (w:nq) (v v2 v3 v4:fu) (b:ab) (g1 g2:Nat) (N:Nat) (hN:b.ah=N) (rN:N<=4) (t:Nat->Int) (l:List eH)
 (hl:∀x∈l,x.ptz.length<=4/\∀i,i<N->0<=ac x.ptz i/\ac x.ptz i<5)
 (h1:aA w g1 78 #[.int .i64 b.ak,.int .i64 b.ah,v2,v3,v4]) (h2:aA w g2 130 (tick t)) (h:dB w v l):
 Calls ZP 156 #[v,.func (.func 157) #[] #[ptr g1,ptr g2]] w (dq w λr=>r=!l.all (fD N t)):=by
 have hC:=AK w v v2 v3 v4 b g1 g2 N hN rN t l hl h1 h2 h;clear hl h1 h2 h hN;go_enter ZF156,Tryz.ntmps156
 go_wp2_with(go_at_call 165;refine hC.mono ?_;rintro e w1 ⟨⟨r,rfl,hr⟩,bq⟩;replace hr:Hid (0<=r↔¬∀x∈l,fD N t x=true):=hr)
 go_ret;have hr:=hr.o;refine dq.mk ?_ bq;cases hq:l.all (fD N t)with
 |true=>
  have h1:¬0<=r:=λh=>(hr.1 h) (zCD.1 hq)
  simp only[zDV h1,zEI]
 |false=>
  have h1:0<=r:=hr.2 λh=>by rw[zCD.2 h]at hq;cases hq
  simp only[zDS h1,zFA]
def Kw (hv:Valid b):∀x∈b.aX,x.ptz.length<=4/\∀i,i<b.ah.toNat->0<=ac x.ptz i/\ac x.ptz i<5:=λx hx=>by
 obtain⟨j,hj,e⟩:=zCQ hx;have h:=hv.aX j x hj (by rw[zAJ hj,e]);have hp:=hv.ah;have hl:=h.1.len;exact⟨by omega,yS hv.ptz.many.2 h.1⟩
def Gt (w:nq) (v:fu) (b:ab) (t:Nat->Int) (hb:ar w v b) (hv:Valid b):
 Calls ZP 135 #[v,.agg (tick t)] w (bK w (.bool (aj b t))):=by
 obtain⟨N,hN⟩:∃N:Nat,b.ah=N:=⟨b.ah.toNat,by have:=hv.ah;omega⟩
 have rN:N<=4:=by have:=hv.ah;omega
 have HT:Hid (∀x∈b.aX,x.ptz.length<=4/\∀i,i<N->0<=ac x.ptz i/\ac x.ptz i<5):=(by have:=Kw hv;rw[hN]at this;simpa using this:∀x∈b.aX,x.ptz.length<=4/\∀i,i<N->0<=ac x.ptz i/\ac x.ptz i<5)
 have HA:Hid (aj b t=b.aX.all (fD N t)):=(by unfold aj;rw[hN];simp:aj b t=b.aX.all (fD N t))
 have HN:=hid hN;obtain⟨v2,v3,v4,rfl,⟨a2,c2,⟨rfl,_,_,_,_⟩,_⟩,⟨a3,c3,⟨rfl,_,_,_,_⟩,_⟩,h4⟩:=hb;have H4:=hid h4;obtain⟨a4,c4,⟨rfl,_,_,_,_⟩,_⟩:=h4;obtain⟨A1,bh⟩:=ex1 (w.alloc (.cells #[.int .i64 b.ak,.int .i64 b.ah,.slice a2 b.ptz.length c2,.slice a3 b.aL.length c3,.slice a4 b.aX.length c4] 78));obtain⟨A2,bL⟩:=ex1 (A1.alloc (.cells (tick t) 130));have eL:=snew bh;have b1:=(bnewk bh bL).o;have B2:=bnew2 bL eL;have HW:=wnew2 bh bL;obtain⟨-,-,-,-,z4⟩:=b1.c5;have hC:=AL A2 _ _ _ _ b w.heap.size (w.heap.size+1) N hN rN t b.aX HT.o b1 B2.o (H4.o.later (Kp.of HW.o));simp only[tick]at bL⊢;clear b1 hN hv;go_enter ZF135,Tryz.ntmps135
 go_wp2_with(go_at_call 156;refine hC.mono ?_;rintro e w' ⟨⟨r,rfl,hr⟩,bq⟩)
 go_ret;refine⟨?_,HW.o.trans (bq.mono HW.o.size)⟩;rw[HA.o];rfl
def iK {w:nq} {v:fu} (hb:ar w v b) (hv:Valid b):pl w v (aj b):=λX t hX=>Gt X v b t (hb.later (Kp.of hX)) hv
def xv (w:nq) (b:ab) (v:fu) (a2:Option Addr) (c2:Nat) (v3 v4:fu) (ag:(Nat->Int)->Bool) (Ph:v=.agg #[.int .i64 b.ak,.int .i64 b.ah,.slice a2 b.ptz.length c2,v3,v4]) (hb:ar w v b) (hv:Valid b) (hc:jh w)
 (gl:Nat) (km:∀X t,Below w.heap.size w X->Calls ZP 135 #[v,.agg (tick t)] X (bK X (.bool (ag t))))
 (bQ:∀X,Below w.heap.size w X->Calls ZP 85 #[v,ptr gl] X (bK X (.int .i64 0))):
 Calls ZP 51 #[v,.func (.func 85) #[] #[ptr gl]] w (NU w b (.slice a2 b.ptz.length c2) v3 v4 (an b ag)):=
 yN 85 ZC85 w b v a2 c2 v3 v4 ag Ph hb hv hc #[ptr gl] km bQ
end Go.Proofs.Cz
