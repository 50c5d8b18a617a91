/- A part. Conditions: none. -/
import Derived.Test.YtehbindidbgacaaGreatDoorT35
import Derived.Laws.CopyOwn
set_option linter.all false
set_option maxHeartbeats 8000000
set_option maxRecDepth 100000
namespace Go.Proofs.Cz
open Go.RowKit
variable {b:aW}
theorem vh:∀(l:List Int),l.length<=4->splice (qO fun _=>0).toList 0 (l.map (Value.int .i64))=(qO (aY l)).toList
 | [],_=>rfl
 | [_],_=>rfl
 | [_,_],_=>rfl
 | [_,_,_],_=>rfl
 | [_,_,_,_],_=>rfl
 |_::_::_::_::_::_,h=>by simp at h
theorem Ku:(ZP.info? 3).map (·.size)=some 1:=by
 have h:(ZP.info? 3).map (fun i=>(i.zero,i.size,i.bytes))=some (some (.int .i64 0),1,8):=yO;cases hi:ZP.info? 3 with
 |none=>rw[hi]at h;cases h
 |some i=>rw[hi]at h;simp at h;rw[Option.map_some,h.2.1]
theorem pY (w:World) (v:Value) (l:List Int) (hl:l.length<=4) (h:aP w v l):Calls ZP 67 #[v] w (iw w (.agg (qO (aY l)))):=by
 obtain⟨a,c,h1,h2⟩:=h;have H:Hid (cm w v l.length a c/\∀b,a=some b->∀j x,l[j]?=some x->At w b j (.int .i64 x)):=⟨h1,h2⟩
 obtain⟨rfl,l1,m1,n1,r1⟩:=h1;obtain⟨A1,dE⟩:=ex1 (w.alloc (.cells #[.int .i64 0,.int .i64 0,.int .i64 0,.int .i64 0] 107));obtain⟨A2,gV⟩:=ex1 (A1.alloc (.cells #[.int .i64 0,.int .i64 0,.int .i64 0,.int .i64 0] 107));have ns:=snew dE;have qf:=knew dE;have mQ:=knew gV;have B1:Hid (bc A2 w.heap.size 107 (qO fun _=>0)):=mQ.box (by rw[<-dE];exact bc.new _ _ _) (by simp);have B2:=bnew2 gV ns;have hk:ak [] w A2:=qf.trans mQ (by simp);have YJ:Hid (Kp w A2):=fun k vB=>hk.block k vB (by simp);have HW:Hid (Below w.heap.size w A2):=hk.below (by simp) (Nat.le_refl _);have HS:Hid (A2.heap.size=w.heap.size+2):=(by rw[<-gV];simp[ns]:A2.heap.size=w.heap.size+2)
 have YK:=hid hl;have u32:=yS;clear h2 n1 r1 qf mQ hk;go_enter ZF67,Tryz.ntmps67
 go_wp2_with(refine wpList_copy_splice rfl (.tmp 4) (.tmp 5) 31 31 rfl 3 u32 Ku (some ⟨w.heap.size+1,0,none⟩) a 4 4 l.length c rfl rfl (w.heap.size+1) 0 (qO fun _=>0).toList 107 B2.o (l.map (Value.int .i64)) (by rw[List.length_map];exact(Nat.min_eq_left hl).symm) ?_ (by rw[List.length_map];show 0+l.length<=4;omega) (fun v hv=>by obtain⟨x,_,rfl⟩:=List.mem_map.1 hv;rfl) (w.heap.size+1) A2 (Below.refl _ _) (Nat.le_refl _) ?_)
 .intro hp;have h0:0<l.length:=by simpa using hp
  obtain⟨b,x,rfl,_,mE⟩:=H.o.1.elem H.o.2 h0;refine⟨b,rfl,fun j v hj=>?_⟩;have h3:=(H.o.2 b rfl j v hj).later YJ.o;obtain⟨bb,bo,bs⟩:=b;obtain rfl:bs=none:=h3.1;rw[show(⟨bb,bo,none⟩:Addr).add j=⟨bb,bo+j,none⟩ by unfold Addr.add;split<;>simp_all];exact h3.2
 .intro w2 OY S0;have iz:=hid S0
  have YL:Hid (bc w2 (w.heap.size+1) 107 (qO (aY l))):=by
   have h:=OY.o;rw[vh l YK.o]at h;exact h
  have Lj:Hid (bc w2 w.heap.size 107 (qO fun _=>0)):=(S0.block _ (by omega)).trans B1.o;obtain⟨z0,z1,z2,z3⟩:=YL.o.c4;have f0:=Lj.o.et 0;have f1:=Lj.o.et 1;have f2:=Lj.o.et 2;have f3:=Lj.o.et 3;obtain⟨y0,y1,y2,y3⟩:=Lj.o.c4;clear S0 OY dE gV ns;go_wp2
  obtain⟨WF,xC⟩:=ex1 (((((w2.setCell ⟨w.heap.size,0,none⟩ (.int .i64 (aY l 0))).setCell ⟨w.heap.size,1,none⟩ (.int .i64 (aY l 1))).setCell ⟨w.heap.size,2,none⟩ (.int .i64 (aY l 2))).setCell ⟨w.heap.size,3,none⟩ (.int .i64 (aY l 3))))
  have my:bc WF w.heap.size 107 #[.int .i64 (aY l 0),.int .i64 (aY l 1),.int .i64 (aY l 2),.int .i64 (aY l 3)]:=by
   rw[<-xC];exact(((Lj.o.set 0 _).set 1 _).set 2 _).set 3 _
  have Di:ak [w.heap.size] w2 WF:=by
   rw[<-xC];exact((((ak.set w2 (by simp) _).trans' (ak.set _ (by simp) _)).trans' (ak.set _ (by simp) _)).trans' (ak.set _ (by simp) _))
  have cb:=iz.o.size;have hs:=HS.o;have Kt:Below w.heap.size w WF:=HW.o.trans ((iz.o.mono (by omega)).trans (Di.below (by simp) (by omega)));obtain⟨u0,u1,u2,u3⟩:=my.c4;rw[xC];refine bodyPost_ret (v:=.agg (qO (aY l))) ?_ rfl ⟨rfl,Kt⟩;rw[fD rfl];go_simp;simp[qO]
def i7 (m t:Nat->Int):Nat->Int
 |0=>0
 |k+1=>wrap64 (i7 m t k+t (m k).toNat)
theorem As (w:World) (v2 v3 v4:Value) (b:aW) (N:Nat) (hN:b.places=N) (Ib:N<=4) (m t:Nat->Int) (hm:∀i,i<N->0<=m i/\m i<5):
 Calls ZP 96 #[.agg #[.int .i64 b.ap,.int .i64 b.places,v2,v3,v4],.agg (qO m),.agg (tick t)] w (iw w (.int .i64 (i7 m t N))):=by
 rw[hN];obtain⟨A1,dE⟩:=ex1 (w.alloc (.cells #[.int .i64 b.ap,.int .i64 N,v2,v3,v4] 84));obtain⟨A2,gV⟩:=ex1 (A1.alloc (.cells (qO m) 107));obtain⟨A3,vb⟩:=ex1 (A2.alloc (.cells (tick t) 99));have ns:=snew dE;have pq:=snew2 gV ns
 have b1:bc A3 w.heap.size 84 #[.int .i64 b.ap,.int .i64 N,v2,v3,v4]:=by
  rw[<-vb];refine(ak.alloc [] _ _).box ?_ (by simp);rw[<-gV];refine(ak.alloc [] _ _).box ?_ (by simp);rw[<-dE];exact bc.new _ _ _
 have B2:Hid (bc A3 (w.heap.size+1) 107 (qO m)):=by
  rw[<-vb];refine(ak.alloc [] _ _).box ?_ (by simp);rw[<-gV,<-ns];exact bc.new _ _ _
 have B3:=bnew2 vb pq;have HW:=wnew3 dE gV vb;obtain⟨-,z1⟩:=b1.c2;simp only[qO,tick]at gV vb⊢;clear b1 hN;go_enter ZF96,Tryz.ntmps96
 go_wp2
 clear dE gV vb ns pq;go_loop [12,8,7] (fun i _ s=>∃k:Nat,k<=N/\i=.int .i64 k/\s=.int .i64 (i7 m t k)) (fun i _ _=>N-(intOf i).toNat)
 case atStart=>exact⟨0,Nat.zero_le _,rfl,rfl⟩
 case round=>
  obtain⟨k,hk,rfl,rfl⟩:=hrel;by_cases ao:k<N
  .have nG:k<4:=by omega
   have c2:A3.cell? ⟨w.heap.size+1,k,none⟩=some (.int .i64 (m k)):=B2.o.cell k (FV nG _);obtain⟨j,hj⟩:∃j:Nat,m k=(j:Int):=⟨(m k).toNat,by have:=(hm k ao).1;omega⟩
   have YM:j<5:=by have:=(hm k ao).2;omega
   rw[hj]at c2;have c3:A3.cell? ⟨w.heap.size+1+1,j,none⟩=some (.int .i64 (t j)):=B3.o.cell j (eu YM _);have HS:Hid (i7 m t (k+1)=wrap64 (i7 m t k+t j)):=by show wrap64 (i7 m t k+t (m k).toNat)=_;rw[hj];simp
   generalize i7 m t k=s at*;generalize t j=tj at*;go_wp2
   go_round
   case rel=>exact⟨k+1,by omega,by go_num,by rw[HS.o]⟩
   case measure=>simp[intOf];omega
  .have e:k=N:=by omega
   subst e;go_wp2
   go_ret;exact⟨rfl,HW.o⟩
def dN (N:Nat) (t:Nat->Int) (x:ga):Bool:=decide (x.lo<=i7 (aY x.parts) t N)&&decide (i7 (aY x.parts) t N<=x.hi)
def aO (b:aW) (t:Nat->Int):Bool:=b.ah.all (dN b.places.toNat t)
theorem Au {l:List Int} (hm:b.parts.length<=5) (h:gZ b l):∀i,i<b.places.toNat->0<=aY l i/\aY l i<5:=fun i hi=>by
 have hl:=h.len;have e:l[i]?=some (l[i]'(by omega)):=List.getElem?_eq_getElem (by omega);have h1:=h.range i _ (by omega) e;unfold aY;rw[e];simp only[Option.getD_some];omega
theorem Av (w:World) (v2 v3 v4 vl:Value) (b:aW) (x:ga) (g1 g2:Nat) (N:Nat) (hN:b.places=N) (Ib:N<=4) (t:Nat->Int) (hx:x.parts.length<=4) (hm:∀i,i<N->0<=aY x.parts i/\aY x.parts i<5)
 (h1:bc w g1 84 #[.int .i64 b.ap,.int .i64 b.places,v2,v3,v4]) (h2:bc w g2 99 (tick t)) (hl:aP w vl x.parts):
 Calls ZP 129 #[.agg #[vl,.int .i64 x.lo,.int .i64 x.hi],ptr g1,ptr g2] w (dc w fun r=>r=!dN N t x):=by
 obtain⟨la,lc,⟨rfl,ll,lm,ln,lr⟩,le⟩:=hl;have HL:Hid (aP w (.slice la x.parts.length lc) x.parts):=⟨la,lc,⟨rfl,ll,lm,ln,lr⟩,le⟩
 clear ll lm ln lr le;obtain⟨A1,dE⟩:=ex1 (w.alloc (.cells #[.slice la x.parts.length lc,.int .i64 x.lo,.int .i64 x.hi] 65));have B1:=(bnew dE).o;have HW:=wnew dE;have C1:bc A1 g1 84 #[.int .i64 b.ap,.int .i64 b.places,v2,v3,v4]:=h1.below HW.o h1.lt;have C2:bc A1 g2 99 (tick t):=h2.below HW.o h2.lt;have Cd:=C1.lt;have oU:=C2.lt;have YN:=B1.lt;obtain⟨X0,X1,X2⟩:=B1.a3;obtain⟨Y0,Y1,Y2,Y3,Y4⟩:=C1.a5;obtain⟨Z0,Z1,Z2,Z3,Z4⟩:=C2.a5
 have YO:∀X:aj A1,Calls ZP 67 #[.slice la x.parts.length lc] X.1 (fun e pV=>e=.returned (.agg #[.int .i64 (aY x.parts 0),.int .i64 (aY x.parts 1),.int .i64 (aY x.parts 2),.int .i64 (aY x.parts 3)])/\∃Y:aj A1,pV=Y.1):=fun X=>
  (pY _ _ _ hx ((HL.o.later (Kp.of HW.o)).later X.kp)).mono fun e w' h=>⟨h.1,X.on h.2⟩
 have S3:∀X:aj A1,Calls ZP 96 #[.agg #[.int .i64 b.ap,.int .i64 b.places,v2,v3,v4],.agg #[.int .i64 (aY x.parts 0),.int .i64 (aY x.parts 1),.int .i64 (aY x.parts 2),.int .i64 (aY x.parts 3)],
  .agg #[.int .i64 (t 0),.int .i64 (t 1),.int .i64 (t 2),.int .i64 (t 3),.int .i64 (t 4)]] X.1 (fun e pV=>e=.returned (.int .i64 (i7 (aY x.parts) t N))/\∃Y:aj A1,pV=Y.1):=fun X=>
  (As _ _ _ _ _ N hN Ib _ _ hm).mono fun e w' h=>⟨h.1,X.on h.2⟩
 have YP:∀X:aj A1,Calls ZP 92 #[.int .i64 (i7 (aY x.parts) t N),.int .i64 x.lo,.int .i64 x.hi] X.1 (fun e pV=>e=.returned (.bool (dN N t x))/\∃Y:aj A1,pV=Y.1):=fun X=>
  (cG _ _ _ _).mono fun e w' h=>⟨h.1,X.same h.2⟩
 generalize i7 (aY x.parts) t N=tk at*;generalize dN N t x=r at*;clear h1 h2 B1 C1 C2 hm hN;go_enter ZF129,Tryz.ntmps129
 go_wp2
 refine aS (by kernel_rfl) (by kernel_rfl) ?_;repeat(go_big_quiet_step (first|(go_at_call 67;exact YO _)|(go_at_call 96;exact S3 _)|(go_at_call 92;exact YP _)))
 refine wpQuiet_nil ?_;rintro _ ⟨X,rfl⟩;go_wp2
 go_ret;exact dc.mk rfl (HW.o.trans (X.2.mono HW.o.size))
def N3 (f:ga->Bool) (l:List ga) (k:Nat):Prop:=∀x∈l.take k,f x=true
theorem sX (w:World) (v v2 v3 v4:Value) (b:aW) (g1 g2:Nat) (N:Nat) (hN:b.places=N) (Ib:N<=4) (t:Nat->Int) (l:List ga)
 (hl:∀x∈l,x.parts.length<=4/\∀i,i<N->0<=aY x.parts i/\aY x.parts i<5)
 (h1:bc w g1 84 #[.int .i64 b.ap,.int .i64 b.places,v2,v3,v4]) (h2:bc w g2 99 (tick t)) (h:dI w v l):
 Calls ZP 137 #[v,.func (.func 129) #[] #[ptr g1,ptr g2]] w (bT w fun r=>0<=r↔¬∀x∈l,dN N t x=true):=by
 obtain⟨a,c,h3,h4⟩:=h;have H:Hid (cm w v l.length a c/\_):=⟨h3,h4⟩
 have H1:=hid h1;have H2:=hid h2;have HT:=hid hl;have HN:=hid hN;obtain⟨rfl,l1,m1,n1,r1⟩:=h3;unfold maxLen at m1;clear h4 n1 r1 h1 h2 hl hN;go_enter ZF137,Tryz.ntmps137
 go_wp2
 go_loopw [8,5] (fun i j w1=>∃k:Nat,k<=l.length/\Hid (N3 (dN N t) l k)/\i=.int .i64 k/\Hid (Below w.heap.size w w1)) (fun i _ _=>l.length-(intOf i).toNat)
 case atStart=>exact⟨0,Nat.zero_le _,fun x hx=>by simp at hx,rfl,Below.refl _ _⟩
 case round=>
  obtain⟨k,hk,hA,rfl,hB⟩:=hrel;by_cases ao:k<l.length
  .obtain⟨⟨blk,off,sp⟩,x,rfl,hx,⟨vf,x0,x6⟩,x1,x2⟩:=H.o.1.elem H.o.2 ao;obtain rfl:sp=none:=x0.1;have Kv:=x6;obtain⟨af,cf,hf,_⟩:=x6;obtain⟨rfl,lf,mf,_,_⟩:=hf;have y0:=(x0.later (Kp.of hB.o)).2;have y1:=(x1.later (Kp.of hB.o)).2;have y2:=(x2.later (Kp.of hB.o)).2;simp only[<-Nat.add_assoc]at y0 y1 y2;have mQ:(k:Int)<(l.length:Int):=by omega
   have HX:=hid hx;have L4:=HT.o x (List.mem_of_getElem? hx);have hC:=Av wr v2 v3 v4 _ b x g1 g2 N HN.o Ib t L4.1 L4.2 (H1.o.below hB.o H1.o.lt) (H2.o.below hB.o H2.o.lt) (Kv.later (Kp.of hB.o));clear x0 x1 x2 hx L4 Kv;cases hr:dN N t x with
   |true=>
    rw[hr]at hC;have HR:=hid hr;clear hr;go_wp2_with(go_at_call 129;refine hC.mono ?_;rintro e w1 ⟨⟨r,rfl,rfl⟩,cO⟩)
    go_round
    case rel=>
     refine⟨k+1,by omega,fun y hy=>?_,by go_num,hB.o.trans (cO.mono hB.o.size)⟩;rw[List.take_add_one,HX.o]at hy;rcases List.mem_append.1 hy with hy|hy
     .exact hA.o y hy
     .simp at hy;subst hy;exact HR.o
    case measure=>simp[intOf];omega
   |false=>
    rw[hr]at hC;have HR:=hid hr;clear hr;go_wp2_with(go_at_call 129;refine hC.mono ?_;rintro e w1 ⟨⟨r,rfl,rfl⟩,cO⟩)
    go_ret;refine bT.mk (r:=k) ⟨fun _ hh=>?_,fun _=>by omega⟩ (hB.o.trans (cO.mono hB.o.size));have:=hh x (List.mem_of_getElem? HX.o);rw[HR.o]at this;cases this
  .go_wp2
   go_ret;have e:k=l.length:=by omega
   subst e;refine bT.mk (r:=-1) ⟨fun h=>by omega,fun hh=>absurd (fun x hx=>hA.o x (by rw[List.take_length];exact hx)) hh⟩ hB.o
theorem sY (w:World) (v v2 v3 v4:Value) (b:aW) (g1 g2:Nat) (N:Nat) (hN:b.places=N) (Ib:N<=4) (t:Nat->Int) (l:List ga)
 (hl:∀x∈l,x.parts.length<=4/\∀i,i<N->0<=aY x.parts i/\aY x.parts i<5)
 (h1:bc w g1 84 #[.int .i64 b.ap,.int .i64 b.places,v2,v3,v4]) (h2:bc w g2 99 (tick t)) (h:dI w v l):
 Calls ZP 128 #[v,.func (.func 129) #[] #[ptr g1,ptr g2]] w (dc w fun r=>r=!l.all (dN N t)):=by
 have hC:=sX w v v2 v3 v4 b g1 g2 N hN Ib t l hl h1 h2 h;clear hl h1 h2 h hN;go_enter ZF128,Tryz.ntmps128
 go_wp2_with(go_at_call 137;refine hC.mono ?_;rintro e w1 ⟨⟨r,rfl,hr⟩,cO⟩;replace hr:Hid (0<=r↔¬∀x∈l,dN N t x=true):=hr)
 go_ret;have hr:=hr.o;refine dc.mk ?_ cO;cases hq:l.all (dN N t)with
 |true=>
  have h1:¬0<=r:=fun h=>(hr.1 h) (List.all_eq_true.1 hq)
  simp only[decide_eq_false h1,Bool.not_true]
 |false=>
  have h1:0<=r:=hr.2 fun h=>by rw[List.all_eq_true.2 h]at hq;cases hq
  simp only[decide_eq_true h1,Bool.not_false]
theorem Aw (hv:Valid b):∀x∈b.ah,x.parts.length<=4/\∀i,i<b.places.toNat->0<=aY x.parts i/\aY x.parts i<5:=fun x hx=>by
 obtain⟨j,hj,e⟩:=List.getElem_of_mem hx;have h:=hv.ah j x hj (by rw[List.getElem?_eq_getElem hj,e]);have hp:=hv.places;have hl:=h.1.len;exact⟨by omega,Au hv.parts.many.2 h.1⟩
theorem xD (w:World) (v:Value) (b:aW) (t:Nat->Int) (hb:az w v b) (hv:Valid b):
 Calls ZP 108 #[v,.agg (tick t)] w (iw w (.bool (aO b t))):=by
 obtain⟨N,hN⟩:∃N:Nat,b.places=N:=⟨b.places.toNat,by have:=hv.places;omega⟩
 have Ib:N<=4:=by have:=hv.places;omega
 have HT:Hid (∀x∈b.ah,x.parts.length<=4/\∀i,i<N->0<=aY x.parts i/\aY x.parts i<5):=(by have:=Aw hv;rw[hN]at this;simpa using this:∀x∈b.ah,x.parts.length<=4/\∀i,i<N->0<=aY x.parts i/\aY x.parts i<5)
 have HA:Hid (aO b t=b.ah.all (dN N t)):=(by unfold aO;rw[hN];simp:aO b t=b.ah.all (dN N t))
 have HN:=hid hN;obtain⟨v2,v3,v4,rfl,⟨a2,c2,⟨rfl,_,_,_,_⟩,_⟩,⟨a3,c3,⟨rfl,_,_,_,_⟩,_⟩,h4⟩:=hb;have H4:=hid h4;obtain⟨a4,c4,⟨rfl,_,_,_,_⟩,_⟩:=h4;obtain⟨A1,dE⟩:=ex1 (w.alloc (.cells #[.int .i64 b.ap,.int .i64 b.places,.slice a2 b.parts.length c2,.slice a3 b.apart.length c3,.slice a4 b.ah.length c4] 84));obtain⟨A2,gV⟩:=ex1 (A1.alloc (.cells (tick t) 99));have ns:=snew dE;have b1:=(bnewk dE gV).o;have B2:=bnew2 gV ns;have HW:=wnew2 dE gV;obtain⟨-,-,-,-,z4⟩:=b1.c5;have hC:=sY A2 _ _ _ _ b w.heap.size (w.heap.size+1) N hN Ib t b.ah HT.o b1 B2.o (H4.o.later (Kp.of HW.o));simp only[tick]at gV⊢;clear b1 hN hv;go_enter ZF108,Tryz.ntmps108
 go_wp2_with(go_at_call 128;refine hC.mono ?_;rintro e w' ⟨⟨r,rfl,hr⟩,cO⟩)
 go_ret;refine⟨?_,HW.o.trans (cO.mono HW.o.size)⟩;rw[HA.o];rfl
theorem jE {w:World} {v:Value} (hb:az w v b) (hv:Valid b):sV w v (aO b):=fun X t hX=>xD X v b t (hb.later (Kp.of hX)) hv
theorem pZ (w:World) (b:aW) (v:Value) (a2:Option Addr) (c2:Nat) (v3 v4:Value) (ag:(Nat->Int)->Bool) (Li:v=.agg #[.int .i64 b.ap,.int .i64 b.places,.slice a2 b.parts.length c2,v3,v4]) (hb:az w v b) (hv:Valid b) (hc:m8 w)
 (gl:Nat) (jY:∀X t,Below w.heap.size w X->Calls ZP 108 #[v,.agg (tick t)] X (iw X (.bool (ag t))))
 (cr:∀X,Below w.heap.size w X->Calls ZP 91 #[v,ptr gl] X (iw X (.int .i64 0))):
 Calls ZP 50 #[v,.func (.func 91) #[] #[ptr gl]] w (vg w b (.slice a2 b.parts.length c2) v3 v4 (bU b ag)):=
 qV 91 ZC91 w b v a2 c2 v3 v4 ag Li hb hv hc #[ptr gl] jY cr
end Go.Proofs.Cz
