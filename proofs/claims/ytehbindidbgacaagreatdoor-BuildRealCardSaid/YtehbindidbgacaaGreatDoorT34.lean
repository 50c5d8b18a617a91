/- A part. Conditions: none. -/
import Derived.Test.YtehbindidbgacaaGreatDoorT33
import Derived.Laws.CopyOwn
set_option linter.all false
set_option maxHeartbeats 8000000
set_option maxRecDepth 100000
namespace Go.Proofs.Cz
open Go.RowKit
variable {b:an}
theorem zO:∀(l:List Int),l.length<=4->splice (bD fun _=>0).toList 0 (l.map (Value.int .i64))=(bD (ac l)).toList
 | [],_=>rfl
 | [_],_=>rfl
 | [_,_],_=>rfl
 | [_,_,_],_=>rfl
 | [_,_,_,_],_=>rfl
 |_::_::_::_::_::_,h=>by simp at h
theorem QG:(ZP.info? 3).map (·.size)=some 1:=by
 have h:(ZP.info? 3).map (fun i=>(i.zero,i.size,i.bytes))=some (some (.int .i64 0),1,8):=lD;cases hi:ZP.info? 3 with
 |none=>rw[hi]at h;cases h
 |some i=>rw[hi]at h;simp at h;rw[Option.map_some,h.2.1]
theorem jo (w:World) (v:Value) (l:List Int) (hl:l.length<=4) (h:ao w v l):Calls ZP 67 #[v] w (cD w (.agg (bD (ac l)))):=by
 obtain⟨a,c,h1,h2⟩:=h;have H:Hid (bA w v l.length a c/\∀b,a=some b->∀j x,l[j]?=some x->At w b j (.int .i64 x)):=⟨h1,h2⟩
 obtain⟨rfl,l1,m1,n1,r1⟩:=h1;obtain⟨A1,ba⟩:=ex1 (w.alloc (.cells #[.int .i64 0,.int .i64 0,.int .i64 0,.int .i64 0] 107));obtain⟨A2,bN⟩:=ex1 (A1.alloc (.cells #[.int .i64 0,.int .i64 0,.int .i64 0,.int .i64 0] 107));have eR:=snew ba;have kF:=knew ba;have iO:=knew bN;have B1:Hid (aC A2 w.heap.size 107 (bD fun _=>0)):=iO.box (by rw[<-ba];exact aC.new _ _ _) (by simp);have B2:=bnew2 bN eR;have hk:ab [] w A2:=kF.trans iO (by simp);have HKP:Hid (Kp w A2):=fun k xj=>hk.block k xj (by simp);have HW:Hid (Below w.heap.size w A2):=hk.below (by simp) (Nat.le_refl _);have HS:Hid (A2.heap.size=w.heap.size+2):=(by rw[<-bN];simp[eR]:A2.heap.size=w.heap.size+2)
 have HSL:=hid hl;have u32:=fG;clear h2 n1 r1 kF iO hk;go_enter ZF67,Tryz.ntmps67
 go_wp2_with(refine wpList_copy_splice rfl (.tmp 4) (.tmp 5) 31 31 rfl 3 u32 QG (some ⟨w.heap.size+1,0,none⟩) a 4 4 l.length c rfl rfl (w.heap.size+1) 0 (bD fun _=>0).toList 107 B2.o (l.map (Value.int .i64)) (by rw[List.length_map];exact(Nat.min_eq_left hl).symm) ?_ (by rw[List.length_map];show 0+l.length<=4;omega) (fun v hv=>by obtain⟨x,_,rfl⟩:=List.mem_map.1 hv;rfl) (w.heap.size+1) A2 (Below.refl _ _) (Nat.le_refl _) ?_)
 .intro hp;have h0:0<l.length:=by simpa using hp
  obtain⟨b,x,rfl,_,xg⟩:=H.o.1.elem H.o.2 h0;refine⟨b,rfl,fun j v hj=>?_⟩;have h3:=(H.o.2 b rfl j v hj).later HKP.o;obtain⟨bb,bo,bs⟩:=b;obtain rfl:bs=none:=h3.1;rw[show(⟨bb,bo,none⟩:Addr).add j=⟨bb,bo+j,none⟩ by unfold Addr.add;split<;>simp_all];exact h3.2
 .intro w2 Xg hB2;have gE:=hid hB2
  have vi:Hid (aC w2 (w.heap.size+1) 107 (bD (ac l))):=by
   have h:=Xg.o;rw[zO l HSL.o]at h;exact h
  have R6:Hid (aC w2 w.heap.size 107 (bD fun _=>0)):=(hB2.block _ (by omega)).trans B1.o;obtain⟨z0,z1,z2,z3⟩:=vi.o.c4;have f0:=R6.o.aI 0;have f1:=R6.o.aI 1;have f2:=R6.o.aI 2;have f3:=R6.o.aI 3;obtain⟨y0,y1,y2,y3⟩:=R6.o.c4;clear hB2 Xg ba bN eR;go_wp2
  obtain⟨WF,kC⟩:=ex1 (((((w2.setCell ⟨w.heap.size,0,none⟩ (.int .i64 (ac l 0))).setCell ⟨w.heap.size,1,none⟩ (.int .i64 (ac l 1))).setCell ⟨w.heap.size,2,none⟩ (.int .i64 (ac l 2))).setCell ⟨w.heap.size,3,none⟩ (.int .i64 (ac l 3))))
  have iP:aC WF w.heap.size 107 #[.int .i64 (ac l 0),.int .i64 (ac l 1),.int .i64 (ac l 2),.int .i64 (ac l 3)]:=by
   rw[<-kC];exact(((R6.o.set 0 _).set 1 _).set 2 _).set 3 _
  have oH:ab [w.heap.size] w2 WF:=by
   rw[<-kC];exact((((ab.set w2 (by simp) _).trans' (ab.set _ (by simp) _)).trans' (ab.set _ (by simp) _)).trans' (ab.set _ (by simp) _))
  have bV:=gE.o.size;have hs:=HS.o;have pv:Below w.heap.size w WF:=HW.o.trans ((gE.o.mono (by omega)).trans (oH.below (by simp) (by omega)));obtain⟨u0,u1,u2,u3⟩:=iP.c4;rw[kC];refine bodyPost_ret (v:=.agg (bD (ac l))) ?_ rfl ⟨rfl,pv⟩;rw[dA rfl];go_simp;simp[bD]
def gP (m t:Nat->Int):Nat->Int
 |0=>0
 |k+1=>wrap64 (gP m t k+t (m k).toNat)
theorem zP {m t:Nat->Int} (ht:∀i,0<=t i/\t i<=20):∀k:Nat,k<=1000->gP m t k=aq m t k
 |0,_=>rfl
 |k+1,h=>by
  have h1:=it (m:=m) ht (k+1);have h2:=zP (m:=m) ht k (by omega);have e1:aq m t (k+1)=aq m t k+t (m k).toNat:=rfl;have e2:gP m t (k+1)=wrap64 (gP m t k+t (m k).toNat):=rfl;rw[e2,h2,<-e1];unfold wrap64;omega
theorem Fl (w:World) (v2 v3 v4:Value) (b:an) (N:Nat) (hN:b.places=N) (qe:N<=4) (m t:Nat->Int) (hm:∀i,i<N->0<=m i/\m i<5):
 Calls ZP 96 #[.agg #[.int .i64 b.ah,.int .i64 b.places,v2,v3,v4],.agg (bD m),.agg (tick t)] w (cD w (.int .i64 (gP m t N))):=by
 rw[hN];obtain⟨A1,ba⟩:=ex1 (w.alloc (.cells #[.int .i64 b.ah,.int .i64 N,v2,v3,v4] 84));obtain⟨A2,bN⟩:=ex1 (A1.alloc (.cells (bD m) 107));obtain⟨A3,ii⟩:=ex1 (A2.alloc (.cells (tick t) 99));have eR:=snew ba;have js:=snew2 bN eR
 have b1:aC A3 w.heap.size 84 #[.int .i64 b.ah,.int .i64 N,v2,v3,v4]:=by
  rw[<-ii];refine(ab.alloc [] _ _).box ?_ (by simp);rw[<-bN];refine(ab.alloc [] _ _).box ?_ (by simp);rw[<-ba];exact aC.new _ _ _
 have B2:Hid (aC A3 (w.heap.size+1) 107 (bD m)):=by
  rw[<-ii];refine(ab.alloc [] _ _).box ?_ (by simp);rw[<-bN,<-eR];exact aC.new _ _ _
 have B3:=bnew2 ii js;have HW:=wnew3 ba bN ii;obtain⟨-,z1⟩:=b1.c2;simp only[bD,tick]at bN ii⊢;clear b1 hN;go_enter ZF96,Tryz.ntmps96
 go_wp2
 clear ba bN ii eR js;go_loop [12,8,7] (fun i _ s=>∃k:Nat,k<=N/\i=.int .i64 k/\s=.int .i64 (gP m t k)) (fun i _ _=>N-(intOf i).toNat)
 case atStart=>exact⟨0,Nat.zero_le _,rfl,rfl⟩
 case round=>
  obtain⟨k,hk,rfl,rfl⟩:=hrel;by_cases au:k<N
  .have kA:k<4:=by omega
   have c2:A3.cell? ⟨w.heap.size+1,k,none⟩=some (.int .i64 (m k)):=B2.o.cell k (gF kA _);obtain⟨j,hj⟩:∃j:Nat,m k=(j:Int):=⟨(m k).toNat,by have:=(hm k au).1;omega⟩
   have Xv:j<5:=by have:=(hm k au).2;omega
   rw[hj]at c2;have c3:A3.cell? ⟨w.heap.size+1+1,j,none⟩=some (.int .i64 (t j)):=B3.o.cell j (fH Xv _);have HS:Hid (gP m t (k+1)=wrap64 (gP m t k+t j)):=by show wrap64 (gP m t k+t (m k).toNat)=_;rw[hj];simp
   generalize gP m t k=s at*;generalize t j=tj at*;go_wp2
   go_round
   case rel=>exact⟨k+1,by omega,by go_num,by rw[HS.o]⟩
   case measure=>simp[intOf];omega
  .have e:k=N:=by omega
   subst e;go_wp2
   go_ret;exact⟨rfl,HW.o⟩
def eC (N:Nat) (t:Nat->Int) (x:dq):Bool:=decide (x.lo<=gP (ac x.parts) t N)&&decide (gP (ac x.parts) t N<=x.hi)
def aF (b:an) (t:Nat->Int):Bool:=b.aa.all (eC b.places.toNat t)
theorem pz {l:List Int} (hm:b.parts.length<=5) (h:cN b l):∀i,i<b.places.toNat->0<=ac l i/\ac l i<5:=fun i hi=>by
 have hl:=h.len;have e:l[i]?=some (l[i]'(by omega)):=List.getElem?_eq_getElem (by omega);have h1:=h.range i _ (by omega) e;unfold ac;rw[e];simp only[Option.getD_some];omega
theorem Fm (w:World) (v2 v3 v4 vl:Value) (b:an) (x:dq) (g1 g2:Nat) (N:Nat) (hN:b.places=N) (qe:N<=4) (t:Nat->Int) (hx:x.parts.length<=4) (hm:∀i,i<N->0<=ac x.parts i/\ac x.parts i<5)
 (h1:aC w g1 84 #[.int .i64 b.ah,.int .i64 b.places,v2,v3,v4]) (h2:aC w g2 99 (tick t)) (hl:ao w vl x.parts):
 Calls ZP 129 #[.agg #[vl,.int .i64 x.lo,.int .i64 x.hi],ptr g1,ptr g2] w (cn w fun r=>r=!eC N t x):=by
 obtain⟨la,lc,⟨rfl,ll,lm,ln,lr⟩,le⟩:=hl;have HL:Hid (ao w (.slice la x.parts.length lc) x.parts):=⟨la,lc,⟨rfl,ll,lm,ln,lr⟩,le⟩
 clear ll lm ln lr le;obtain⟨A1,ba⟩:=ex1 (w.alloc (.cells #[.slice la x.parts.length lc,.int .i64 x.lo,.int .i64 x.hi] 65));have B1:=(bnew ba).o;have HW:=wnew ba;have C1:aC A1 g1 84 #[.int .i64 b.ah,.int .i64 b.places,v2,v3,v4]:=h1.below HW.o h1.lt;have C2:aC A1 g2 99 (tick t):=h2.below HW.o h2.lt;have rT:=C1.lt;have oh:=C2.lt;have zhp:=B1.lt;obtain⟨X0,X1,X2⟩:=B1.a3;obtain⟨Y0,Y1,Y2,Y3,Y4⟩:=C1.a5;obtain⟨Z0,Z1,Z2,Z3,Z4⟩:=C2.a5
 have c64:∀X:aj A1,Calls ZP 67 #[.slice la x.parts.length lc] X.1 (fun e fT=>e=.returned (.agg #[.int .i64 (ac x.parts 0),.int .i64 (ac x.parts 1),.int .i64 (ac x.parts 2),.int .i64 (ac x.parts 3)])/\∃Y:aj A1,fT=Y.1):=fun X=>
  (jo _ _ _ hx ((HL.o.later (Kp.of HW.o)).later X.kp)).mono fun e w' h=>⟨h.1,X.on h.2⟩
 have zbs:∀X:aj A1,Calls ZP 96 #[.agg #[.int .i64 b.ah,.int .i64 b.places,v2,v3,v4],.agg #[.int .i64 (ac x.parts 0),.int .i64 (ac x.parts 1),.int .i64 (ac x.parts 2),.int .i64 (ac x.parts 3)],
  .agg #[.int .i64 (t 0),.int .i64 (t 1),.int .i64 (t 2),.int .i64 (t 3),.int .i64 (t 4)]] X.1 (fun e fT=>e=.returned (.int .i64 (gP (ac x.parts) t N))/\∃Y:aj A1,fT=Y.1):=fun X=>
  (Fl _ _ _ _ _ N hN qe _ _ hm).mono fun e w' h=>⟨h.1,X.on h.2⟩
 have c75:∀X:aj A1,Calls ZP 92 #[.int .i64 (gP (ac x.parts) t N),.int .i64 x.lo,.int .i64 x.hi] X.1 (fun e fT=>e=.returned (.bool (eC N t x))/\∃Y:aj A1,fT=Y.1):=fun X=>
  (ci _ _ _ _).mono fun e w' h=>⟨h.1,X.same h.2⟩
 generalize gP (ac x.parts) t N=tk at*;generalize eC N t x=r at*;clear h1 h2 B1 C1 C2 hm hN;go_enter ZF129,Tryz.ntmps129
 go_wp2
 refine am (by kernel_rfl) (by kernel_rfl) ?_;repeat(go_big_quiet_step (first|(go_at_call 67;exact c64 _)|(go_at_call 96;exact zbs _)|(go_at_call 92;exact c75 _)))
 refine wpQuiet_nil ?_;rintro _ ⟨X,rfl⟩;go_wp2
 go_ret;exact cn.mk rfl (HW.o.trans (X.2.mono HW.o.size))
def Vr (f:dq->Bool) (l:List dq) (k:Nat):Prop:=∀x∈l.take k,f x=true
theorem wV (w:World) (v v2 v3 v4:Value) (b:an) (g1 g2:Nat) (N:Nat) (hN:b.places=N) (qe:N<=4) (t:Nat->Int) (l:List dq)
 (hl:∀x∈l,x.parts.length<=4/\∀i,i<N->0<=ac x.parts i/\ac x.parts i<5)
 (h1:aC w g1 84 #[.int .i64 b.ah,.int .i64 b.places,v2,v3,v4]) (h2:aC w g2 99 (tick t)) (h:dd w v l):
 Calls ZP 137 #[v,.func (.func 129) #[] #[ptr g1,ptr g2]] w (aV w fun r=>0<=r↔¬∀x∈l,eC N t x=true):=by
 obtain⟨a,c,h3,h4⟩:=h;have H:Hid (bA w v l.length a c/\_):=⟨h3,h4⟩
 have H1:=hid h1;have H2:=hid h2;have HT:=hid hl;have HN:=hid hN;obtain⟨rfl,l1,m1,n1,r1⟩:=h3;unfold maxLen at m1;clear h4 n1 r1 h1 h2 hl hN;go_enter ZF137,Tryz.ntmps137
 go_wp2
 go_loopw [8,5] (fun i j w1=>∃k:Nat,k<=l.length/\Hid (Vr (eC N t) l k)/\i=.int .i64 k/\Hid (Below w.heap.size w w1)) (fun i _ _=>l.length-(intOf i).toNat)
 case atStart=>exact⟨0,Nat.zero_le _,fun x hx=>by simp at hx,rfl,Below.refl _ _⟩
 case round=>
  obtain⟨k,hk,hA,rfl,hB⟩:=hrel;by_cases au:k<l.length
  .obtain⟨⟨blk,off,sp⟩,x,rfl,hx,⟨vf,x0,x6⟩,x1,x2⟩:=H.o.1.elem H.o.2 au;obtain rfl:sp=none:=x0.1;have XD:=x6;obtain⟨af,cf,hf,_⟩:=x6;obtain⟨rfl,lf,mf,_,_⟩:=hf;have y0:=(x0.later (Kp.of hB.o)).2;have y1:=(x1.later (Kp.of hB.o)).2;have y2:=(x2.later (Kp.of hB.o)).2;simp only[<-Nat.add_assoc]at y0 y1 y2;have iO:(k:Int)<(l.length:Int):=by omega
   have HX:=hid hx;have S9:=HT.o x (List.mem_of_getElem? hx);have hC:=Fm wr v2 v3 v4 _ b x g1 g2 N HN.o qe t S9.1 S9.2 (H1.o.below hB.o H1.o.lt) (H2.o.below hB.o H2.o.lt) (XD.later (Kp.of hB.o));clear x0 x1 x2 hx S9 XD;cases hr:eC N t x with
   |true=>
    rw[hr]at hC;have HR:=hid hr;clear hr;go_wp2_with(go_at_call 129;refine hC.mono ?_;rintro e w1 ⟨⟨r,rfl,rfl⟩,bi⟩)
    go_round
    case rel=>
     refine⟨k+1,by omega,fun y hy=>?_,by go_num,hB.o.trans (bi.mono hB.o.size)⟩;rw[List.take_add_one,HX.o]at hy;rcases List.mem_append.1 hy with hy|hy
     .exact hA.o y hy
     .simp at hy;subst hy;exact HR.o
    case measure=>simp[intOf];omega
   |false=>
    rw[hr]at hC;have HR:=hid hr;clear hr;go_wp2_with(go_at_call 129;refine hC.mono ?_;rintro e w1 ⟨⟨r,rfl,rfl⟩,bi⟩)
    go_ret;refine aV.mk (r:=k) ⟨fun _ hh=>?_,fun _=>by omega⟩ (hB.o.trans (bi.mono hB.o.size));have:=hh x (List.mem_of_getElem? HX.o);rw[HR.o]at this;cases this
  .go_wp2
   go_ret;have e:k=l.length:=by omega
   subst e;refine aV.mk (r:=-1) ⟨fun h=>by omega,fun hh=>absurd (fun x hx=>hA.o x (by rw[List.take_length];exact hx)) hh⟩ hB.o
theorem wW (w:World) (v v2 v3 v4:Value) (b:an) (g1 g2:Nat) (N:Nat) (hN:b.places=N) (qe:N<=4) (t:Nat->Int) (l:List dq)
 (hl:∀x∈l,x.parts.length<=4/\∀i,i<N->0<=ac x.parts i/\ac x.parts i<5)
 (h1:aC w g1 84 #[.int .i64 b.ah,.int .i64 b.places,v2,v3,v4]) (h2:aC w g2 99 (tick t)) (h:dd w v l):
 Calls ZP 128 #[v,.func (.func 129) #[] #[ptr g1,ptr g2]] w (cn w fun r=>r=!l.all (eC N t)):=by
 have hC:=wV w v v2 v3 v4 b g1 g2 N hN qe t l hl h1 h2 h;clear hl h1 h2 h hN;go_enter ZF128,Tryz.ntmps128
 go_wp2_with(go_at_call 137;refine hC.mono ?_;rintro e w1 ⟨⟨r,rfl,hr⟩,bi⟩;replace hr:Hid (0<=r↔¬∀x∈l,eC N t x=true):=hr)
 go_ret;have hr:=hr.o;refine cn.mk ?_ bi;cases hq:l.all (eC N t)with
 |true=>
  have h1:¬0<=r:=fun h=>(hr.1 h) (List.all_eq_true.1 hq)
  simp only[decide_eq_false h1,Bool.not_true]
 |false=>
  have h1:0<=r:=hr.2 fun h=>by rw[List.all_eq_true.2 h]at hq;cases hq
  simp only[decide_eq_true h1,Bool.not_false]
theorem Fq (hv:Valid b):∀x∈b.aa,x.parts.length<=4/\∀i,i<b.places.toNat->0<=ac x.parts i/\ac x.parts i<5:=fun x hx=>by
 obtain⟨j,hj,e⟩:=List.getElem_of_mem hx;have h:=hv.aa j x hj (by rw[List.getElem?_eq_getElem hj,e]);have hp:=hv.places;have hl:=h.1.len;exact⟨by omega,pz hv.parts.many.2 h.1⟩
theorem Cd (w:World) (v:Value) (b:an) (t:Nat->Int) (hb:ap w v b) (hv:Valid b):
 Calls ZP 108 #[v,.agg (tick t)] w (cD w (.bool (aF b t))):=by
 obtain⟨N,hN⟩:∃N:Nat,b.places=N:=⟨b.places.toNat,by have:=hv.places;omega⟩
 have qe:N<=4:=by have:=hv.places;omega
 have HT:Hid (∀x∈b.aa,x.parts.length<=4/\∀i,i<N->0<=ac x.parts i/\ac x.parts i<5):=(by have:=Fq hv;rw[hN]at this;simpa using this:∀x∈b.aa,x.parts.length<=4/\∀i,i<N->0<=ac x.parts i/\ac x.parts i<5)
 have HA:Hid (aF b t=b.aa.all (eC N t)):=(by unfold aF;rw[hN];simp:aF b t=b.aa.all (eC N t))
 have HN:=hid hN;obtain⟨v2,v3,v4,rfl,⟨a2,c2,⟨rfl,_,_,_,_⟩,_⟩,⟨a3,c3,⟨rfl,_,_,_,_⟩,_⟩,h4⟩:=hb;have H4:=hid h4;obtain⟨a4,c4,⟨rfl,_,_,_,_⟩,_⟩:=h4;obtain⟨A1,ba⟩:=ex1 (w.alloc (.cells #[.int .i64 b.ah,.int .i64 b.places,.slice a2 b.parts.length c2,.slice a3 b.apart.length c3,.slice a4 b.aa.length c4] 84));obtain⟨A2,bN⟩:=ex1 (A1.alloc (.cells (tick t) 99));have eR:=snew ba;have b1:=(bnewk ba bN).o;have B2:=bnew2 bN eR;have HW:=wnew2 ba bN;obtain⟨-,-,-,-,z4⟩:=b1.c5;have hC:=wW A2 _ _ _ _ b w.heap.size (w.heap.size+1) N hN qe t b.aa HT.o b1 B2.o (H4.o.later (Kp.of HW.o));simp only[tick]at bN⊢;clear b1 hN hv;go_enter ZF108,Tryz.ntmps108
 go_wp2_with(go_at_call 128;refine hC.mono ?_;rintro e w' ⟨⟨r,rfl,hr⟩,bi⟩)
 go_ret;refine⟨?_,HW.o.trans (bi.mono HW.o.size)⟩;rw[HA.o];rfl
theorem fk {w:World} {v:Value} (hb:ap w v b) (hv:Valid b):gW w v (aF b):=fun X t hX=>Cd X v b t (hb.later (Kp.of hX)) hv
theorem wX (w:World) (b:an) (v:Value) (a2:Option Addr) (c2:Nat) (v3 v4:Value) (ag:(Nat->Int)->Bool) (F7:v=.agg #[.int .i64 b.ah,.int .i64 b.places,.slice a2 b.parts.length c2,v3,v4]) (hb:ap w v b) (hv:Valid b) (hc:Chk w)
 (gl:Nat) (ie:∀X t,Below w.heap.size w X->Calls ZP 108 #[v,.agg (tick t)] X (cD X (.bool (ag t))))
 (bQ:∀X,Below w.heap.size w X->Calls ZP 68 #[v,ptr gl] X (cD X (.int .i64 0))):
 Calls ZP 50 #[v,.func (.func 68) #[] #[ptr gl]] w (sx w b (.slice a2 b.parts.length c2) v3 v4 (aD b ag)):=
 lZ 68 ZC68 w b v a2 c2 v3 v4 ag F7 hb hv hc #[ptr gl] ie bQ
theorem tW (w:World) (b:an) (v:Value) (a2:Option Addr) (c2:Nat) (v3 v4:Value) (ag:(Nat->Int)->Bool) (F7:v=.agg #[.int .i64 b.ah,.int .i64 b.places,.slice a2 b.parts.length c2,v3,v4]) (hb:ap w v b) (hv:Valid b) (hc:Chk w)
 (gl:Nat) (ie:∀X t,Below w.heap.size w X->Calls ZP 108 #[v,.agg (tick t)] X (cD X (.bool (ag t))))
 (bQ:∀X,Below w.heap.size w X->Calls ZP 65 #[v,ptr gl] X (cD X (.int .i64 0))):
 Calls ZP 50 #[v,.func (.func 65) #[] #[ptr gl]] w (sx w b (.slice a2 b.parts.length c2) v3 v4 (aD b ag)):=
 lZ 65 ZC65 w b v a2 c2 v3 v4 ag F7 hb hv hc #[ptr gl] ie bQ
theorem tX (w:World) (b:an) (v:Value) (a2:Option Addr) (c2:Nat) (v3 v4:Value) (ag:(Nat->Int)->Bool) (F7:v=.agg #[.int .i64 b.ah,.int .i64 b.places,.slice a2 b.parts.length c2,v3,v4]) (hb:ap w v b) (hv:Valid b) (hc:Chk w)
 (gl:Nat) (ie:∀X t,Below w.heap.size w X->Calls ZP 108 #[v,.agg (tick t)] X (cD X (.bool (ag t))))
 (bQ:∀X,Below w.heap.size w X->Calls ZP 91 #[v,ptr gl] X (cD X (.int .i64 0))):
 Calls ZP 50 #[v,.func (.func 91) #[] #[ptr gl]] w (sx w b (.slice a2 b.parts.length c2) v3 v4 (aD b ag)):=
 lZ 91 ZC91 w b v a2 c2 v3 v4 ag F7 hb hv hc #[ptr gl] ie bQ
end Go.Proofs.Cz
