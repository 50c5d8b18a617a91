/- A part. Conditions: none. -/
import Derived.Test.YthmokljbbkcjdaaGreatDoorT35
import Derived.Laws.CopyOwn
set_option linter.all false
set_option maxHeartbeats 8000000
set_option maxRecDepth 100000
namespace Go.Proofs.Cz
open Go.RowKit
variable {b:aS}
theorem vV:∀(l:List Int),l.length<=4->splice (rm fun _=>0).toList 0 (l.map (Value.int .i64))=(rm (a8 l)).toList
 | [],_=>rfl
 | [_],_=>rfl
 | [_,_],_=>rfl
 | [_,_,_],_=>rfl
 | [_,_,_,_],_=>rfl
 |_::_::_::_::_::_,h=>by simp at h
theorem L0:(ZP.info? 3).map (·.size)=some 1:=by
 have h:(ZP.info? 3).map (fun i=>(i.zero,i.size,i.bytes))=some (some (.int .i64 0),1,8):=vE;cases hi:ZP.info? 3 with
 |none=>rw[hi]at h;cases h
 |some i=>rw[hi]at h;simp at h;rw[Option.map_some,h.2.1]
theorem qr (w:World) (v:Value) (l:List Int) (hl:l.length<=4) (h:ao w v l):Calls ZP 64 #[v] w (eX w (.agg (rm (a8 l)))):=by
 obtain⟨a,c,h1,h2⟩:=h;have H:Hid (bS w v l.length a c/\∀b,a=some b->∀j x,l[j]?=some x->At w b j (.int .i64 x)):=⟨h1,h2⟩
 obtain⟨rfl,l1,m1,n1,r1⟩:=h1;obtain⟨A1,dv⟩:=ex1 (w.alloc (.cells #[.int .i64 0,.int .i64 0,.int .i64 0,.int .i64 0] 91));obtain⟨A2,eB⟩:=ex1 (A1.alloc (.cells #[.int .i64 0,.int .i64 0,.int .i64 0,.int .i64 0] 91));have jj:=snew dv;have qz:=knew dv;have lY:=knew eB;have B1:Hid (aJ A2 w.heap.size 91 (rm fun _=>0)):=lY.box (by rw[<-dv];exact aJ.new _ _ _) (by simp);have B2:=bnew2 eB jj;have hk:aj [] w A2:=qz.trans lY (by simp);have HKP:Hid (Kp w A2):=fun k wt=>hk.block k wt (by simp);have HW:Hid (Below w.heap.size w A2):=hk.below (by simp) (Nat.le_refl _);have HS:Hid (A2.heap.size=w.heap.size+2):=(by rw[<-eB];simp[jj]:A2.heap.size=w.heap.size+2)
 have HSL:=hid hl;have u32:=mm;clear h2 n1 r1 qz lY hk;go_enter ZF64,Tryz.ntmps64
 go_wp2_with(refine wpList_copy_splice rfl (.tmp 4) (.tmp 5) 32 32 rfl 3 u32 L0 (some ⟨w.heap.size+1,0,none⟩) a 4 4 l.length c rfl rfl (w.heap.size+1) 0 (rm fun _=>0).toList 91 B2.o (l.map (Value.int .i64)) (by rw[List.length_map];exact(Nat.min_eq_left hl).symm) ?_ (by rw[List.length_map];show 0+l.length<=4;omega) (fun v hv=>by obtain⟨x,_,rfl⟩:=List.mem_map.1 hv;rfl) (w.heap.size+1) A2 (Below.refl _ _) (Nat.le_refl _) ?_)
 .intro hp;have h0:0<l.length:=by simpa using hp
  obtain⟨b,x,rfl,_,km⟩:=H.o.1.elem H.o.2 h0;refine⟨b,rfl,fun j v hj=>?_⟩;have h3:=(H.o.2 b rfl j v hj).later HKP.o;obtain⟨bb,bo,bs⟩:=b;obtain rfl:bs=none:=h3.1;rw[show(⟨bb,bo,none⟩:Addr).add j=⟨bb,bo+j,none⟩ by unfold Addr.add;split<;>simp_all];exact h3.2
 .intro w2 Q0 U9;have jM:=hid U9
  have HBX:Hid (aJ w2 (w.heap.size+1) 91 (rm (a8 l))):=by
   have h:=Q0.o;rw[vV l HSL.o]at h;exact h
  have MV:Hid (aJ w2 w.heap.size 91 (rm fun _=>0)):=(U9.block _ (by omega)).trans B1.o;obtain⟨z0,z1,z2,z3⟩:=HBX.o.c4;have f0:=MV.o.cr 0;have f1:=MV.o.cr 1;have f2:=MV.o.cr 2;have f3:=MV.o.cr 3;obtain⟨y0,y1,y2,y3⟩:=MV.o.c4;clear U9 Q0 dv eB jj;go_wp2
  obtain⟨WF,qq⟩:=ex1 (((((w2.setCell ⟨w.heap.size,0,none⟩ (.int .i64 (a8 l 0))).setCell ⟨w.heap.size,1,none⟩ (.int .i64 (a8 l 1))).setCell ⟨w.heap.size,2,none⟩ (.int .i64 (a8 l 2))).setCell ⟨w.heap.size,3,none⟩ (.int .i64 (a8 l 3))))
  have lq:aJ WF w.heap.size 91 #[.int .i64 (a8 l 0),.int .i64 (a8 l 1),.int .i64 (a8 l 2),.int .i64 (a8 l 3)]:=by
   rw[<-qq];exact(((MV.o.set 0 _).set 1 _).set 2 _).set 3 _
  have Em:aj [w.heap.size] w2 WF:=by
   rw[<-qq];exact((((aj.set w2 (by simp) _).trans' (aj.set _ (by simp) _)).trans' (aj.set _ (by simp) _)).trans' (aj.set _ (by simp) _))
  have cq:=jM.o.size;have hs:=HS.o;have Hn:Below w.heap.size w WF:=HW.o.trans ((jM.o.mono (by omega)).trans (Em.below (by simp) (by omega)));obtain⟨u0,u1,u2,u3⟩:=lq.c4;rw[qq];refine bodyPost_ret (v:=.agg (rm (a8 l))) ?_ rfl ⟨rfl,Hn⟩;rw[fT rfl];go_simp;simp[rm]
def jd (m t:Nat->Int):Nat->Int
 |0=>0
 |k+1=>wrap64 (jd m t k+t (m k).toNat)
theorem Bw (w:World) (v2 v3 v4:Value) (b:aS) (N:Nat) (hN:b.places=N) (JB:N<=4) (m t:Nat->Int) (hm:∀i,i<N->0<=m i/\m i<5):
 Calls ZP 102 #[.agg #[.int .i64 b.am,.int .i64 b.places,v2,v3,v4],.agg (rm m),.agg (tick t)] w (eX w (.int .i64 (jd m t N))):=by
 rw[hN];obtain⟨A1,dv⟩:=ex1 (w.alloc (.cells #[.int .i64 b.am,.int .i64 N,v2,v3,v4] 79));obtain⟨A2,eB⟩:=ex1 (A1.alloc (.cells (rm m) 91));obtain⟨A3,pE⟩:=ex1 (A2.alloc (.cells (tick t) 111));have jj:=snew dv;have nk:=snew2 eB jj
 have b1:aJ A3 w.heap.size 79 #[.int .i64 b.am,.int .i64 N,v2,v3,v4]:=by
  rw[<-pE];refine(aj.alloc [] _ _).box ?_ (by simp);rw[<-eB];refine(aj.alloc [] _ _).box ?_ (by simp);rw[<-dv];exact aJ.new _ _ _
 have B2:Hid (aJ A3 (w.heap.size+1) 91 (rm m)):=by
  rw[<-pE];refine(aj.alloc [] _ _).box ?_ (by simp);rw[<-eB,<-jj];exact aJ.new _ _ _
 have B3:=bnew2 pE nk;have HW:=wnew3 dv eB pE;obtain⟨-,z1⟩:=b1.c2;simp only[rm,tick]at eB pE⊢;clear b1 hN;go_enter ZF102,Tryz.ntmps102
 go_wp2
 clear dv eB pE jj nk;go_loop [12,8,7] (fun i _ s=>∃k:Nat,k<=N/\i=.int .i64 k/\s=.int .i64 (jd m t k)) (fun i _ _=>N-(intOf i).toNat)
 case atStart=>exact⟨0,Nat.zero_le _,rfl,rfl⟩
 case round=>
  obtain⟨k,hk,rfl,rfl⟩:=hrel;by_cases ap:k<N
  .have ol:k<4:=by omega
   have c2:A3.cell? ⟨w.heap.size+1,k,none⟩=some (.int .i64 (m k)):=B2.o.cell k (Hf ol _);obtain⟨j,hj⟩:∃j:Nat,m k=(j:Int):=⟨(m k).toNat,by have:=(hm k ap).1;omega⟩
   have hj5:j<5:=by have:=(hm k ap).2;omega
   rw[hj]at c2;have c3:A3.cell? ⟨w.heap.size+1+1,j,none⟩=some (.int .i64 (t j)):=B3.o.cell j (fD hj5 _);have HS:Hid (jd m t (k+1)=wrap64 (jd m t k+t j)):=by show wrap64 (jd m t k+t (m k).toNat)=_;rw[hj];simp
   generalize jd m t k=s at*;generalize t j=tj at*;go_wp2
   go_round
   case rel=>exact⟨k+1,by omega,by go_num,by rw[HS.o]⟩
   case measure=>simp[intOf];omega
  .have e:k=N:=by omega
   subst e;go_wp2
   go_ret;exact⟨rfl,HW.o⟩
def dZ (N:Nat) (t:Nat->Int) (x:cU):Bool:=decide (x.lo<=jd (a8 x.parts) t N)&&decide (jd (a8 x.parts) t N<=x.hi)
def aF (b:aS) (t:Nat->Int):Bool:=b.aa.all (dZ b.places.toNat t)
theorem Bx {l:List Int} (hm:b.parts.length<=5) (h:io b l):∀i,i<b.places.toNat->0<=a8 l i/\a8 l i<5:=fun i hi=>by
 have hl:=h.len;have e:l[i]?=some (l[i]'(by omega)):=List.getElem?_eq_getElem (by omega);have h1:=h.range i _ (by omega) e;unfold a8;rw[e];simp only[Option.getD_some];omega
theorem By (w:World) (v2 v3 v4 vl:Value) (b:aS) (x:cU) (g1 g2:Nat) (N:Nat) (hN:b.places=N) (JB:N<=4) (t:Nat->Int) (hx:x.parts.length<=4) (hm:∀i,i<N->0<=a8 x.parts i/\a8 x.parts i<5)
 (h1:aJ w g1 79 #[.int .i64 b.am,.int .i64 b.places,v2,v3,v4]) (h2:aJ w g2 111 (tick t)) (hl:ao w vl x.parts):
 Calls ZP 132 #[.agg #[vl,.int .i64 x.lo,.int .i64 x.hi],ptr g1,ptr g2] w (dq w fun r=>r=!dZ N t x):=by
 obtain⟨la,lc,⟨rfl,ll,lm,ln,lr⟩,le⟩:=hl;have HL:Hid (ao w (.slice la x.parts.length lc) x.parts):=⟨la,lc,⟨rfl,ll,lm,ln,lr⟩,le⟩
 clear ll lm ln lr le;obtain⟨A1,dv⟩:=ex1 (w.alloc (.cells #[.slice la x.parts.length lc,.int .i64 x.lo,.int .i64 x.hi] 75));have B1:=(bnew dv).o;have HW:=wnew dv;have C1:aJ A1 g1 79 #[.int .i64 b.am,.int .i64 b.places,v2,v3,v4]:=h1.below HW.o h1.lt;have C2:aJ A1 g2 111 (tick t):=h2.below HW.o h2.lt;have Do:=C1.lt;have pA:=C2.lt;have zbl:=B1.lt;obtain⟨X0,X1,X2⟩:=B1.a3;obtain⟨Y0,Y1,Y2,Y3,Y4⟩:=C1.a5;obtain⟨Z0,Z1,Z2,Z3,Z4⟩:=C2.a5
 have c64:∀X:an A1,Calls ZP 64 #[.slice la x.parts.length lc] X.1 (fun e qn=>e=.returned (.agg #[.int .i64 (a8 x.parts 0),.int .i64 (a8 x.parts 1),.int .i64 (a8 x.parts 2),.int .i64 (a8 x.parts 3)])/\∃Y:an A1,qn=Y.1):=fun X=>
  (qr _ _ _ hx ((HL.o.later (Kp.of HW.o)).later X.kp)).mono fun e w' h=>⟨h.1,X.on h.2⟩
 have Va:∀X:an A1,Calls ZP 102 #[.agg #[.int .i64 b.am,.int .i64 b.places,v2,v3,v4],.agg #[.int .i64 (a8 x.parts 0),.int .i64 (a8 x.parts 1),.int .i64 (a8 x.parts 2),.int .i64 (a8 x.parts 3)],
  .agg #[.int .i64 (t 0),.int .i64 (t 1),.int .i64 (t 2),.int .i64 (t 3),.int .i64 (t 4)]] X.1 (fun e qn=>e=.returned (.int .i64 (jd (a8 x.parts) t N))/\∃Y:an A1,qn=Y.1):=fun X=>
  (Bw _ _ _ _ _ N hN JB _ _ hm).mono fun e w' h=>⟨h.1,X.on h.2⟩
 have c75:∀X:an A1,Calls ZP 75 #[.int .i64 (jd (a8 x.parts) t N),.int .i64 x.lo,.int .i64 x.hi] X.1 (fun e qn=>e=.returned (.bool (dZ N t x))/\∃Y:an A1,qn=Y.1):=fun X=>
  (cP _ _ _ _).mono fun e w' h=>⟨h.1,X.same h.2⟩
 generalize jd (a8 x.parts) t N=tk at*;generalize dZ N t x=r at*;clear h1 h2 B1 C1 C2 hm hN;go_enter ZF132,Tryz.ntmps132
 go_wp2
 refine aV (by kernel_rfl) (by kernel_rfl) ?_;repeat(go_big_quiet_step (first|(go_at_call 64;exact c64 _)|(go_at_call 102;exact Va _)|(go_at_call 75;exact c75 _)))
 refine wpQuiet_nil ?_;rintro _ ⟨X,rfl⟩;go_wp2
 go_ret;exact dq.mk rfl (HW.o.trans (X.2.mono HW.o.size))
def PM (f:cU->Bool) (l:List cU) (k:Nat):Prop:=∀x∈l.take k,f x=true
theorem tD (w:World) (v v2 v3 v4:Value) (b:aS) (g1 g2:Nat) (N:Nat) (hN:b.places=N) (JB:N<=4) (t:Nat->Int) (l:List cU)
 (hl:∀x∈l,x.parts.length<=4/\∀i,i<N->0<=a8 x.parts i/\a8 x.parts i<5)
 (h1:aJ w g1 79 #[.int .i64 b.am,.int .i64 b.places,v2,v3,v4]) (h2:aJ w g2 111 (tick t)) (h:cz w v l):
 Calls ZP 139 #[v,.func (.func 132) #[] #[ptr g1,ptr g2]] w (bY w fun r=>0<=r↔¬∀x∈l,dZ N t x=true):=by
 obtain⟨a,c,h3,h4⟩:=h;have H:Hid (bS w v l.length a c/\_):=⟨h3,h4⟩
 have H1:=hid h1;have H2:=hid h2;have HT:=hid hl;have HN:=hid hN;obtain⟨rfl,l1,m1,n1,r1⟩:=h3;unfold maxLen at m1;clear h4 n1 r1 h1 h2 hl hN;go_enter ZF139,Tryz.ntmps139
 go_wp2
 go_loopw [8,5] (fun i j w1=>∃k:Nat,k<=l.length/\Hid (PM (dZ N t) l k)/\i=.int .i64 k/\Hid (Below w.heap.size w w1)) (fun i _ _=>l.length-(intOf i).toNat)
 case atStart=>exact⟨0,Nat.zero_le _,fun x hx=>by simp at hx,rfl,Below.refl _ _⟩
 case round=>
  obtain⟨k,hk,hA,rfl,hB⟩:=hrel;by_cases ap:k<l.length
  .obtain⟨⟨blk,off,sp⟩,x,rfl,hx,⟨vf,x0,x6⟩,x1,x2⟩:=H.o.1.elem H.o.2 ap;obtain rfl:sp=none:=x0.1;have JC:=x6;obtain⟨af,cf,hf,_⟩:=x6;obtain⟨rfl,lf,mf,_,_⟩:=hf;have y0:=(x0.later (Kp.of hB.o)).2;have y1:=(x1.later (Kp.of hB.o)).2;have y2:=(x2.later (Kp.of hB.o)).2;simp only[<-Nat.add_assoc]at y0 y1 y2;have lY:(k:Int)<(l.length:Int):=by omega
   have HX:=hid hx;have NM:=HT.o x (List.mem_of_getElem? hx);have hC:=By wr v2 v3 v4 _ b x g1 g2 N HN.o JB t NM.1 NM.2 (H1.o.below hB.o H1.o.lt) (H2.o.below hB.o H2.o.lt) (JC.later (Kp.of hB.o));clear x0 x1 x2 hx NM JC;cases hr:dZ N t x with
   |true=>
    rw[hr]at hC;have HR:=hid hr;clear hr;go_wp2_with(go_at_call 132;refine hC.mono ?_;rintro e w1 ⟨⟨r,rfl,rfl⟩,cW⟩)
    go_round
    case rel=>
     refine⟨k+1,by omega,fun y hy=>?_,by go_num,hB.o.trans (cW.mono hB.o.size)⟩;rw[List.take_add_one,HX.o]at hy;rcases List.mem_append.1 hy with hy|hy
     .exact hA.o y hy
     .simp at hy;subst hy;exact HR.o
    case measure=>simp[intOf];omega
   |false=>
    rw[hr]at hC;have HR:=hid hr;clear hr;go_wp2_with(go_at_call 132;refine hC.mono ?_;rintro e w1 ⟨⟨r,rfl,rfl⟩,cW⟩)
    go_ret;refine bY.mk (r:=k) ⟨fun _ hh=>?_,fun _=>by omega⟩ (hB.o.trans (cW.mono hB.o.size));have:=hh x (List.mem_of_getElem? HX.o);rw[HR.o]at this;cases this
  .go_wp2
   go_ret;have e:k=l.length:=by omega
   subst e;refine bY.mk (r:=-1) ⟨fun h=>by omega,fun hh=>absurd (fun x hx=>hA.o x (by rw[List.take_length];exact hx)) hh⟩ hB.o
theorem tE (w:World) (v v2 v3 v4:Value) (b:aS) (g1 g2:Nat) (N:Nat) (hN:b.places=N) (JB:N<=4) (t:Nat->Int) (l:List cU)
 (hl:∀x∈l,x.parts.length<=4/\∀i,i<N->0<=a8 x.parts i/\a8 x.parts i<5)
 (h1:aJ w g1 79 #[.int .i64 b.am,.int .i64 b.places,v2,v3,v4]) (h2:aJ w g2 111 (tick t)) (h:cz w v l):
 Calls ZP 131 #[v,.func (.func 132) #[] #[ptr g1,ptr g2]] w (dq w fun r=>r=!l.all (dZ N t)):=by
 have hC:=tD w v v2 v3 v4 b g1 g2 N hN JB t l hl h1 h2 h;clear hl h1 h2 h hN;go_enter ZF131,Tryz.ntmps131
 go_wp2_with(go_at_call 139;refine hC.mono ?_;rintro e w1 ⟨⟨r,rfl,hr⟩,cW⟩;replace hr:Hid (0<=r↔¬∀x∈l,dZ N t x=true):=hr)
 go_ret;have hr:=hr.o;refine dq.mk ?_ cW;cases hq:l.all (dZ N t)with
 |true=>
  have h1:¬0<=r:=fun h=>(hr.1 h) (List.all_eq_true.1 hq)
  simp only[decide_eq_false h1,Bool.not_true]
 |false=>
  have h1:0<=r:=hr.2 fun h=>by rw[List.all_eq_true.2 h]at hq;cases hq
  simp only[decide_eq_true h1,Bool.not_false]
theorem Bz (hv:Valid b):∀x∈b.aa,x.parts.length<=4/\∀i,i<b.places.toNat->0<=a8 x.parts i/\a8 x.parts i<5:=fun x hx=>by
 obtain⟨j,hj,e⟩:=List.getElem_of_mem hx;have h:=hv.aa j x hj (by rw[List.getElem?_eq_getElem hj,e]);have hp:=hv.places;have hl:=h.1.len;exact⟨by omega,Bx hv.parts.many.2 h.1⟩
theorem yx (w:World) (v:Value) (b:aS) (t:Nat->Int) (hb:ar w v b) (hv:Valid b):
 Calls ZP 114 #[v,.agg (tick t)] w (eX w (.bool (aF b t))):=by
 obtain⟨N,hN⟩:∃N:Nat,b.places=N:=⟨b.places.toNat,by have:=hv.places;omega⟩
 have JB:N<=4:=by have:=hv.places;omega
 have HT:Hid (∀x∈b.aa,x.parts.length<=4/\∀i,i<N->0<=a8 x.parts i/\a8 x.parts i<5):=(by have:=Bz hv;rw[hN]at this;simpa using this:∀x∈b.aa,x.parts.length<=4/\∀i,i<N->0<=a8 x.parts i/\a8 x.parts i<5)
 have HA:Hid (aF b t=b.aa.all (dZ N t)):=(by unfold aF;rw[hN];simp:aF b t=b.aa.all (dZ N t))
 have HN:=hid hN;obtain⟨v2,v3,v4,rfl,⟨a2,c2,⟨rfl,_,_,_,_⟩,_⟩,⟨a3,c3,⟨rfl,_,_,_,_⟩,_⟩,h4⟩:=hb;have H4:=hid h4;obtain⟨a4,c4,⟨rfl,_,_,_,_⟩,_⟩:=h4;obtain⟨A1,dv⟩:=ex1 (w.alloc (.cells #[.int .i64 b.am,.int .i64 b.places,.slice a2 b.parts.length c2,.slice a3 b.apart.length c3,.slice a4 b.aa.length c4] 79));obtain⟨A2,eB⟩:=ex1 (A1.alloc (.cells (tick t) 111));have jj:=snew dv;have b1:=(bnewk dv eB).o;have B2:=bnew2 eB jj;have HW:=wnew2 dv eB;obtain⟨-,-,-,-,z4⟩:=b1.c5;have hC:=tE A2 _ _ _ _ b w.heap.size (w.heap.size+1) N hN JB t b.aa HT.o b1 B2.o (H4.o.later (Kp.of HW.o));simp only[tick]at eB⊢;clear b1 hN hv;go_enter ZF114,Tryz.ntmps114
 go_wp2_with(go_at_call 131;refine hC.mono ?_;rintro e w' ⟨⟨r,rfl,hr⟩,cW⟩)
 go_ret;refine⟨?_,HW.o.trans (cW.mono HW.o.size)⟩;rw[HA.o];rfl
theorem jN {w:World} {v:Value} (hb:ar w v b) (hv:Valid b):tC w v (aF b):=fun X t hX=>yx X v b t (hb.later (Kp.of hX)) hv
theorem qs (w:World) (b:aS) (v:Value) (a2:Option Addr) (c2:Nat) (v3 v4:Value) (ag:(Nat->Int)->Bool) (MU:v=.agg #[.int .i64 b.am,.int .i64 b.places,.slice a2 b.parts.length c2,v3,v4]) (hb:ar w v b) (hv:Valid b) (hc:nH w)
 (gl:Nat) (lA:∀X t,Below w.heap.size w X->Calls ZP 114 #[v,.agg (tick t)] X (eX X (.bool (ag t))))
 (cF:∀X,Below w.heap.size w X->Calls ZP 103 #[v,ptr gl] X (eX X (.int .i64 0))):
 Calls ZP 55 #[v,.func (.func 103) #[] #[ptr gl]] w (vU w b (.slice a2 b.parts.length c2) v3 v4 (bI b ag)):=
 ry 103 ZC103 w b v a2 c2 v3 v4 ag MU hb hv hc #[ptr gl] lA cF
end Go.Proofs.Cz
