/- A part. Conditions: none. -/
import Derived.Test.YtehbindidbgacaaGreatDoorT33
import Derived.Laws.CopyOwn
set_option linter.all false
set_option maxHeartbeats 8000000
set_option maxRecDepth 100000
namespace Go.Proofs.Cz
open Go.RowKit
variable {b:ap}
theorem AY:∀(l:List Int),l.length<=4->splice (bP λ_=>0).toList 0 (l.map (Value.int .i64))=(bP (ak l)).toList
 | [],_=>rfl
 | [_],_=>rfl
 | [_,_],_=>rfl
 | [_,_,_],_=>rfl
 | [_,_,_,_],_=>rfl
 |_::_::_::_::_::_,h=>by simp at h
theorem Tp:(ZP.info? 3).map (·.size)=some 1:=by
 have h:(ZP.info? 3).map (λi=>(i.zero,i.size,i.bytes))=some (some (.int .i64 0),1,8):=m6;cases hi:ZP.info? 3 with
 |none=>rw[hi]at h;cases h
 |some i=>rw[hi]at h;simp at h;rw[zBJ,h.2.1]
theorem jF (w:World) (v:Value) (l:List Int) (hl:l.length<=4) (h:am w v l):Calls ZP 67 #[v] w (di w (.agg (bP (ak l)))):=by
 obtain⟨a,c,h1,h2⟩:=h;have H:Hid (bA w v l.length a c/\∀b,a=some b->∀j x,l[j]?=some x->At w b j (.int .i64 x)):=⟨h1,h2⟩
 obtain⟨rfl,l1,m1,n1,r1⟩:=h1;obtain⟨A1,aV⟩:=ex1 (w.alloc (.cells #[.int .i64 0,.int .i64 0,.int .i64 0,.int .i64 0] 107));obtain⟨A2,bc⟩:=ex1 (A1.alloc (.cells #[.int .i64 0,.int .i64 0,.int .i64 0,.int .i64 0] 107));have cS:=snew aV;have pg:=knew aV;have j0:=knew bc;have B1:Hid (aA A2 w.heap.size 107 (bP λ_=>0)):=j0.box (by rw[<-aV];exact aA.new _ _ _) (by simp);have B2:=bnew2 bc cS;have hk:ab [] w A2:=pg.trans j0 (by simp);have HKP:Hid (Kp w A2):=λk yN=>hk.block k yN (by simp);have HW:Hid (Below w.heap.size w A2):=hk.below (by simp) (zAC _);have HS:Hid (A2.heap.size=w.heap.size+2):=(by rw[<-bc];simp[cS]:A2.heap.size=w.heap.size+2)
 have HSL:=hid hl;have u32:=gQ;clear h2 n1 r1 pg j0 hk;go_enter ZF67,Tryz.ntmps67
 go_wp2_with(refine wpList_copy_splice rfl (.tmp 4) (.tmp 5) 31 31 rfl 3 u32 Tp (some ⟨w.heap.size+1,0,none⟩) a 4 4 l.length c rfl rfl (w.heap.size+1) 0 (bP λ_=>0).toList 107 B2.o (l.map (Value.int .i64)) (by rw[zBY];exact(Nat.min_eq_left hl).symm) ?_ (by rw[zBY];show 0+l.length<=4;omega) (λv hv=>by obtain⟨x,_,rfl⟩:=zCL.1 hv;rfl) (w.heap.size+1) A2 (Below.refl _ _) (zAC _) ?_)
 .intro hp;have h0:0<l.length:=by simpa using hp
  obtain⟨b,x,rfl,_,rz⟩:=H.o.1.elem H.o.2 h0;refine⟨b,rfl,λj v hj=>?_⟩;have h3:=(H.o.2 b rfl j v hj).later HKP.o;obtain⟨bb,bo,bs⟩:=b;obtain rfl:bs=none:=h3.1;rw[show(⟨bb,bo,none⟩:Addr).add j=⟨bb,bo+j,none⟩ by unfold Addr.add;split<;>simp_all];exact h3.2
 .intro w2 ZN hB2;have gm:=hid hB2
  have BL:Hid (aA w2 (w.heap.size+1) 107 (bP (ak l))):=by
   have h:=ZN.o;rw[AY l HSL.o]at h;exact h
  have UQ:Hid (aA w2 w.heap.size 107 (bP λ_=>0)):=(hB2.block _ (by omega)).trans B1.o;obtain⟨z0,z1,z2,z3⟩:=BL.o.c4;have f0:=UQ.o.aL 0;have f1:=UQ.o.aL 1;have f2:=UQ.o.aL 2;have f3:=UQ.o.aL 3;obtain⟨y0,y1,y2,y3⟩:=UQ.o.c4;clear hB2 ZN aV bc cS;go_wp2
  obtain⟨WF,jK⟩:=ex1 (((((w2.setCell ⟨w.heap.size,0,none⟩ (.int .i64 (ak l 0))).setCell ⟨w.heap.size,1,none⟩ (.int .i64 (ak l 1))).setCell ⟨w.heap.size,2,none⟩ (.int .i64 (ak l 2))).setCell ⟨w.heap.size,3,none⟩ (.int .i64 (ak l 3))))
  have iw:aA WF w.heap.size 107 #[.int .i64 (ak l 0),.int .i64 (ak l 1),.int .i64 (ak l 2),.int .i64 (ak l 3)]:=by
   rw[<-jK];exact(((UQ.o.set 0 _).set 1 _).set 2 _).set 3 _
  have rQ:ab [w.heap.size] w2 WF:=by
   rw[<-jK];exact((((ab.set w2 (by simp) _).trans' (ab.set _ (by simp) _)).trans' (ab.set _ (by simp) _)).trans' (ab.set _ (by simp) _))
  have bW:=gm.o.size;have hs:=HS.o;have tA:Below w.heap.size w WF:=HW.o.trans ((gm.o.mono (by omega)).trans (rQ.below (by simp) (by omega)));obtain⟨u0,u1,u2,u3⟩:=iw.c4;rw[jK];refine bodyPost_ret (v:=.agg (bP (ak l))) ?_ rfl ⟨rfl,tA⟩;rw[eX rfl];go_simp;simp[bP]
def kS (m t:Nat->Int):Nat->Int
 |0=>0
 |k+1=>wrap64 (kS m t k+t (m k).toNat)
theorem GV (w:World) (v2 v3 v4:Value) (b:ap) (N:Nat) (hN:b.places=N) (vV:N<=4) (m t:Nat->Int) (hm:∀i,i<N->0<=m i/\m i<5):
 Calls ZP 96 #[.agg #[.int .i64 b.ac,.int .i64 b.places,v2,v3,v4],.agg (bP m),.agg (tick t)] w (di w (.int .i64 (kS m t N))):=by
 rw[hN];obtain⟨A1,aV⟩:=ex1 (w.alloc (.cells #[.int .i64 b.ac,.int .i64 N,v2,v3,v4] 84));obtain⟨A2,bc⟩:=ex1 (A1.alloc (.cells (bP m) 107));obtain⟨A3,eE⟩:=ex1 (A2.alloc (.cells (tick t) 99));have cS:=snew aV;have gV:=snew2 bc cS
 have b1:aA A3 w.heap.size 84 #[.int .i64 b.ac,.int .i64 N,v2,v3,v4]:=by
  rw[<-eE];refine(ab.alloc [] _ _).box ?_ (by simp);rw[<-bc];refine(ab.alloc [] _ _).box ?_ (by simp);rw[<-aV];exact aA.new _ _ _
 have B2:Hid (aA A3 (w.heap.size+1) 107 (bP m)):=by
  rw[<-eE];refine(ab.alloc [] _ _).box ?_ (by simp);rw[<-bc,<-cS];exact aA.new _ _ _
 have B3:=bnew2 eE gV;have HW:=wnew3 aV bc eE;obtain⟨-,z1⟩:=b1.c2;simp only[bP,tick]at bc eE⊢;clear b1 hN;go_enter ZF96,Tryz.ntmps96
 go_wp2
 clear aV bc eE cS gV;go_loop [12,8,7] (λi _ s=>∃k:Nat,k<=N/\i=.int .i64 k/\s=.int .i64 (kS m t k)) (λi _ _=>N-(intOf i).toNat)
 case atStart=>exact⟨0,zAR _,rfl,rfl⟩
 case round=>
  obtain⟨k,hk,rfl,rfl⟩:=hrel;by_cases az:k<N
  .have lN:k<4:=by omega
   have c2:A3.cell? ⟨w.heap.size+1,k,none⟩=some (.int .i64 (m k)):=B2.o.cell k (gR lN _);obtain⟨j,hj⟩:∃j:Nat,m k=(j:Int):=⟨(m k).toNat,by have:=(hm k az).1;omega⟩
   have hj5:j<5:=by have:=(hm k az).2;omega
   rw[hj]at c2;have c3:A3.cell? ⟨w.heap.size+1+1,j,none⟩=some (.int .i64 (t j)):=B3.o.cell j (fV hj5 _);have HS:Hid (kS m t (k+1)=wrap64 (kS m t k+t j)):=by show wrap64 (kS m t k+t (m k).toNat)=_;rw[hj];simp
   generalize kS m t k=s at*;generalize t j=tj at*;go_wp2
   go_round
   case rel=>exact⟨k+1,by omega,by go_num,by rw[HS.o]⟩
   case measure=>simp[intOf];omega
  .have e:k=N:=by omega
   subst e;go_wp2
   go_ret;exact⟨rfl,HW.o⟩
def dZ (N:Nat) (t:Nat->Int) (x:bH):Bool:=decide (x.lo<=kS (ak x.parts) t N)&&decide (kS (ak x.parts) t N<=x.hi)
def ai (b:ap) (t:Nat->Int):Bool:=b.aa.all (dZ b.places.toNat t)
theorem pX {l:List Int} (hm:b.parts.length<=5) (h:cr b l):∀i,i<b.places.toNat->0<=ak l i/\ak l i<5:=λi hi=>by
 have hl:=h.len;have e:l[i]?=some (l[i]'(by omega)):=zAJ (by omega);have h1:=h.range i _ (by omega) e;unfold ak;rw[e];simp only[zAB];omega
theorem GW (w:World) (v2 v3 v4 vl:Value) (b:ap) (x:bH) (g1 g2:Nat) (N:Nat) (hN:b.places=N) (vV:N<=4) (t:Nat->Int) (hx:x.parts.length<=4) (hm:∀i,i<N->0<=ak x.parts i/\ak x.parts i<5)
 (h1:aA w g1 84 #[.int .i64 b.ac,.int .i64 b.places,v2,v3,v4]) (h2:aA w g2 99 (tick t)) (hl:am w vl x.parts):
 Calls ZP 129 #[.agg #[vl,.int .i64 x.lo,.int .i64 x.hi],ptr g1,ptr g2] w (cI w λr=>r=!dZ N t x):=by
 obtain⟨la,lc,⟨rfl,ll,lm,ln,lr⟩,le⟩:=hl;have HL:Hid (am w (.slice la x.parts.length lc) x.parts):=⟨la,lc,⟨rfl,ll,lm,ln,lr⟩,le⟩
 clear ll lm ln lr le;obtain⟨A1,aV⟩:=ex1 (w.alloc (.cells #[.slice la x.parts.length lc,.int .i64 x.lo,.int .i64 x.hi] 65));have B1:=(bnew aV).o;have HW:=wnew aV;have C1:aA A1 g1 84 #[.int .i64 b.ac,.int .i64 b.places,v2,v3,v4]:=h1.below HW.o h1.lt;have C2:aA A1 g2 99 (tick t):=h2.below HW.o h2.lt;have Aa:=C1.lt;have te:=C2.lt;have zj7:=B1.lt;obtain⟨X0,X1,X2⟩:=B1.a3;obtain⟨Y0,Y1,Y2,Y3,Y4⟩:=C1.a5;obtain⟨Z0,Z1,Z2,Z3,Z4⟩:=C2.a5
 have c64:∀X:aj A1,Calls ZP 67 #[.slice la x.parts.length lc] X.1 (λe iu=>e=.returned (.agg #[.int .i64 (ak x.parts 0),.int .i64 (ak x.parts 1),.int .i64 (ak x.parts 2),.int .i64 (ak x.parts 3)])/\∃Y:aj A1,iu=Y.1):=λX=>
  (jF _ _ _ hx ((HL.o.later (Kp.of HW.o)).later X.kp)).mono λe w' h=>⟨h.1,X.on h.2⟩
 have zdK:∀X:aj A1,Calls ZP 96 #[.agg #[.int .i64 b.ac,.int .i64 b.places,v2,v3,v4],.agg #[.int .i64 (ak x.parts 0),.int .i64 (ak x.parts 1),.int .i64 (ak x.parts 2),.int .i64 (ak x.parts 3)],
  .agg #[.int .i64 (t 0),.int .i64 (t 1),.int .i64 (t 2),.int .i64 (t 3),.int .i64 (t 4)]] X.1 (λe iu=>e=.returned (.int .i64 (kS (ak x.parts) t N))/\∃Y:aj A1,iu=Y.1):=λX=>
  (GV _ _ _ _ _ N hN vV _ _ hm).mono λe w' h=>⟨h.1,X.on h.2⟩
 have c75:∀X:aj A1,Calls ZP 92 #[.int .i64 (kS (ak x.parts) t N),.int .i64 x.lo,.int .i64 x.hi] X.1 (λe iu=>e=.returned (.bool (dZ N t x))/\∃Y:aj A1,iu=Y.1):=λX=>
  (cD _ _ _ _).mono λe w' h=>⟨h.1,X.same h.2⟩
 generalize kS (ak x.parts) t N=tk at*;generalize dZ N t x=r at*;clear h1 h2 B1 C1 C2 hm hN;go_enter ZF129,Tryz.ntmps129
 go_wp2
 refine ao (by kernel_rfl) (by kernel_rfl) ?_;repeat(go_big_quiet_step (first|(go_at_call 67;exact c64 _)|(go_at_call 96;exact zdK _)|(go_at_call 92;exact c75 _)))
 refine wpQuiet_nil ?_;rintro _ ⟨X,rfl⟩;go_wp2
 go_ret;exact cI.mk rfl (HW.o.trans (X.2.mono HW.o.size))
def XY (f:bH->Bool) (l:List bH) (k:Nat):Prop:=∀x∈l.take k,f x=true
theorem yn (w:World) (v v2 v3 v4:Value) (b:ap) (g1 g2:Nat) (N:Nat) (hN:b.places=N) (vV:N<=4) (t:Nat->Int) (l:List bH)
 (hl:∀x∈l,x.parts.length<=4/\∀i,i<N->0<=ak x.parts i/\ak x.parts i<5)
 (h1:aA w g1 84 #[.int .i64 b.ac,.int .i64 b.places,v2,v3,v4]) (h2:aA w g2 99 (tick t)) (h:bL w v l):
 Calls ZP 137 #[v,.func (.func 129) #[] #[ptr g1,ptr g2]] w (aY w λr=>0<=r↔¬∀x∈l,dZ N t x=true):=by
 obtain⟨a,c,h3,h4⟩:=h;have H:Hid (bA w v l.length a c/\_):=⟨h3,h4⟩
 have H1:=hid h1;have H2:=hid h2;have HT:=hid hl;have HN:=hid hN;obtain⟨rfl,l1,m1,n1,r1⟩:=h3;unfold maxLen at m1;clear h4 n1 r1 h1 h2 hl hN;go_enter ZF137,Tryz.ntmps137
 go_wp2
 go_loopw [8,5] (λi j w1=>∃k:Nat,k<=l.length/\Hid (XY (dZ N t) l k)/\i=.int .i64 k/\Hid (Below w.heap.size w w1)) (λi _ _=>l.length-(intOf i).toNat)
 case atStart=>exact⟨0,zAR _,λx hx=>by simp at hx,rfl,Below.refl _ _⟩
 case round=>
  obtain⟨k,hk,hA,rfl,hB⟩:=hrel;by_cases az:k<l.length
  .obtain⟨⟨blk,off,sp⟩,x,rfl,hx,⟨vf,x0,x6⟩,x1,x2⟩:=H.o.1.elem H.o.2 az;obtain rfl:sp=none:=x0.1;have Qk:=x6;obtain⟨af,cf,hf,_⟩:=x6;obtain⟨rfl,lf,mf,_,_⟩:=hf;have y0:=(x0.later (Kp.of hB.o)).2;have y1:=(x1.later (Kp.of hB.o)).2;have y2:=(x2.later (Kp.of hB.o)).2;simp only[<-zBE]at y0 y1 y2;have j0:(k:Int)<(l.length:Int):=by omega
   have HX:=hid hx;have ux:=HT.o x (zAX hx);have hC:=GW wr v2 v3 v4 _ b x g1 g2 N HN.o vV t ux.1 ux.2 (H1.o.below hB.o H1.o.lt) (H2.o.below hB.o H2.o.lt) (Qk.later (Kp.of hB.o));clear x0 x1 x2 hx ux Qk;cases hr:dZ N t x with
   |true=>
    rw[hr]at hC;have HR:=hid hr;clear hr;go_wp2_with(go_at_call 129;refine hC.mono ?_;rintro e w1 ⟨⟨r,rfl,rfl⟩,bi⟩)
    go_round
    case rel=>
     refine⟨k+1,by omega,λy hy=>?_,by go_num,hB.o.trans (bi.mono hB.o.size)⟩;rw[zCA,HX.o]at hy;rcases zDV.1 hy with hy|hy
     .exact hA.o y hy
     .simp at hy;subst hy;exact HR.o
    case measure=>simp[intOf];omega
   |false=>
    rw[hr]at hC;have HR:=hid hr;clear hr;go_wp2_with(go_at_call 129;refine hC.mono ?_;rintro e w1 ⟨⟨r,rfl,rfl⟩,bi⟩)
    go_ret;refine aY.mk (r:=k) ⟨λ_ hh=>?_,λ_=>by omega⟩ (hB.o.trans (bi.mono hB.o.size));have:=hh x (zAX HX.o);rw[HR.o]at this;cases this
  .go_wp2
   go_ret;have e:k=l.length:=by omega
   subst e;refine aY.mk (r:=-1) ⟨λh=>by omega,λhh=>absurd (λx hx=>hA.o x (by rw[zDK];exact hx)) hh⟩ hB.o
theorem yp (w:World) (v v2 v3 v4:Value) (b:ap) (g1 g2:Nat) (N:Nat) (hN:b.places=N) (vV:N<=4) (t:Nat->Int) (l:List bH)
 (hl:∀x∈l,x.parts.length<=4/\∀i,i<N->0<=ak x.parts i/\ak x.parts i<5)
 (h1:aA w g1 84 #[.int .i64 b.ac,.int .i64 b.places,v2,v3,v4]) (h2:aA w g2 99 (tick t)) (h:bL w v l):
 Calls ZP 128 #[v,.func (.func 129) #[] #[ptr g1,ptr g2]] w (cI w λr=>r=!l.all (dZ N t)):=by
 have hC:=yn w v v2 v3 v4 b g1 g2 N hN vV t l hl h1 h2 h;clear hl h1 h2 h hN;go_enter ZF128,Tryz.ntmps128
 go_wp2_with(go_at_call 137;refine hC.mono ?_;rintro e w1 ⟨⟨r,rfl,hr⟩,bi⟩;replace hr:Hid (0<=r↔¬∀x∈l,dZ N t x=true):=hr)
 go_ret;have hr:=hr.o;refine cI.mk ?_ bi;cases hq:l.all (dZ N t)with
 |true=>
  have h1:¬0<=r:=λh=>(hr.1 h) (zCQ.1 hq)
  simp only[zDR h1,zEB]
 |false=>
  have h1:0<=r:=hr.2 λh=>by rw[zCQ.2 h]at hq;cases hq
  simp only[zDD h1,zER]
theorem GX (hv:Valid b):∀x∈b.aa,x.parts.length<=4/\∀i,i<b.places.toNat->0<=ak x.parts i/\ak x.parts i<5:=λx hx=>by
 obtain⟨j,hj,e⟩:=zCI hx;have h:=hv.aa j x hj (by rw[zAJ hj,e]);have hp:=hv.places;have hl:=h.1.len;exact⟨by omega,pX hv.parts.many.2 h.1⟩
theorem DJ (w:World) (v:Value) (b:ap) (t:Nat->Int) (hb:ar w v b) (hv:Valid b):
 Calls ZP 108 #[v,.agg (tick t)] w (di w (.bool (ai b t))):=by
 obtain⟨N,hN⟩:∃N:Nat,b.places=N:=⟨b.places.toNat,by have:=hv.places;omega⟩
 have vV:N<=4:=by have:=hv.places;omega
 have HT:Hid (∀x∈b.aa,x.parts.length<=4/\∀i,i<N->0<=ak x.parts i/\ak x.parts i<5):=(by have:=GX hv;rw[hN]at this;simpa using this:∀x∈b.aa,x.parts.length<=4/\∀i,i<N->0<=ak x.parts i/\ak x.parts i<5)
 have HA:Hid (ai b t=b.aa.all (dZ N t)):=(by unfold ai;rw[hN];simp:ai b t=b.aa.all (dZ N t))
 have HN:=hid hN;obtain⟨v2,v3,v4,rfl,⟨a2,c2,⟨rfl,_,_,_,_⟩,_⟩,⟨a3,c3,⟨rfl,_,_,_,_⟩,_⟩,h4⟩:=hb;have H4:=hid h4;obtain⟨a4,c4,⟨rfl,_,_,_,_⟩,_⟩:=h4;obtain⟨A1,aV⟩:=ex1 (w.alloc (.cells #[.int .i64 b.ac,.int .i64 b.places,.slice a2 b.parts.length c2,.slice a3 b.apart.length c3,.slice a4 b.aa.length c4] 84));obtain⟨A2,bc⟩:=ex1 (A1.alloc (.cells (tick t) 99));have cS:=snew aV;have b1:=(bnewk aV bc).o;have B2:=bnew2 bc cS;have HW:=wnew2 aV bc;obtain⟨-,-,-,-,z4⟩:=b1.c5;have hC:=yp A2 _ _ _ _ b w.heap.size (w.heap.size+1) N hN vV t b.aa HT.o b1 B2.o (H4.o.later (Kp.of HW.o));simp only[tick]at bc⊢;clear b1 hN hv;go_enter ZF108,Tryz.ntmps108
 go_wp2_with(go_at_call 128;refine hC.mono ?_;rintro e w' ⟨⟨r,rfl,hr⟩,bi⟩)
 go_ret;refine⟨?_,HW.o.trans (bi.mono HW.o.size)⟩;rw[HA.o];rfl
theorem eP {w:World} {v:Value} (hb:ar w v b) (hv:Valid b):kE w v (ai b):=λX t hX=>DJ X v b t (hb.later (Kp.of hX)) hv
theorem yq (w:World) (b:ap) (v:Value) (a2:Option Addr) (c2:Nat) (v3 v4:Value) (ag:(Nat->Int)->Bool) (In:v=.agg #[.int .i64 b.ac,.int .i64 b.places,.slice a2 b.parts.length c2,v3,v4]) (hb:ar w v b) (hv:Valid b) (hc:iv w)
 (gl:Nat) (iQ:∀X t,Below w.heap.size w X->Calls ZP 108 #[v,.agg (tick t)] X (di X (.bool (ag t))))
 (bN:∀X,Below w.heap.size w X->Calls ZP 68 #[v,ptr gl] X (di X (.int .i64 0))):
 Calls ZP 50 #[v,.func (.func 68) #[] #[ptr gl]] w (tz w b (.slice a2 b.parts.length c2) v3 v4 (aq b ag)):=
 mD 68 ZC68 w b v a2 c2 v3 v4 ag In hb hv hc #[ptr gl] iQ bN
theorem uO (w:World) (b:ap) (v:Value) (a2:Option Addr) (c2:Nat) (v3 v4:Value) (ag:(Nat->Int)->Bool) (In:v=.agg #[.int .i64 b.ac,.int .i64 b.places,.slice a2 b.parts.length c2,v3,v4]) (hb:ar w v b) (hv:Valid b) (hc:iv w)
 (gl:Nat) (iQ:∀X t,Below w.heap.size w X->Calls ZP 108 #[v,.agg (tick t)] X (di X (.bool (ag t))))
 (bN:∀X,Below w.heap.size w X->Calls ZP 65 #[v,ptr gl] X (di X (.int .i64 0))):
 Calls ZP 50 #[v,.func (.func 65) #[] #[ptr gl]] w (tz w b (.slice a2 b.parts.length c2) v3 v4 (aq b ag)):=
 mD 65 ZC65 w b v a2 c2 v3 v4 ag In hb hv hc #[ptr gl] iQ bN
theorem uP (w:World) (b:ap) (v:Value) (a2:Option Addr) (c2:Nat) (v3 v4:Value) (ag:(Nat->Int)->Bool) (In:v=.agg #[.int .i64 b.ac,.int .i64 b.places,.slice a2 b.parts.length c2,v3,v4]) (hb:ar w v b) (hv:Valid b) (hc:iv w)
 (gl:Nat) (iQ:∀X t,Below w.heap.size w X->Calls ZP 108 #[v,.agg (tick t)] X (di X (.bool (ag t))))
 (bN:∀X,Below w.heap.size w X->Calls ZP 91 #[v,ptr gl] X (di X (.int .i64 0))):
 Calls ZP 50 #[v,.func (.func 91) #[] #[ptr gl]] w (tz w b (.slice a2 b.parts.length c2) v3 v4 (aq b ag)):=
 mD 91 ZC91 w b v a2 c2 v3 v4 ag In hb hv hc #[ptr gl] iQ bN
end Go.Proofs.Cz
