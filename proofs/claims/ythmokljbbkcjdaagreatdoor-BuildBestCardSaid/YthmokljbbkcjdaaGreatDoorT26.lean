/- A part. Conditions: none. -/
import Derived.Test.YthmokljbbkcjdaaGreatDoorT25
import Derived.Laws.StructEq
set_option linter.all false
set_option maxHeartbeats 8000000
namespace Go.Proofs.Cz
open Go.RowKit
variable {k:Nat} {n p q:Int} {w w0:World} {x:Int×Int}
@[go_sem] theorem P0:ZP.eqGuardType ZP.depth 119=false:=by kernel_rfl
structure BO (n:Int) (x:Int×Int):Prop where
 one:0<=x.1/\x.1<=n-1
 two:0<=x.2/\x.2<=n-1
 le:x.1<=x.2
def iO (l:List (Int×Int)) (x:Int×Int) (k:Nat):Prop:=∀j y,j<k->l[j]?=some y->y≠x
theorem iO.zero (l:List (Int×Int)) (x:Int×Int):iO l x 0:=fun j y h=>by omega
theorem iO.succ {l:List (Int×Int)} {y:Int×Int} (h:iO l x k) (hy:l[k]?=some y) (br:y≠x):iO l x (k+1):=fun j z hj hz=>by
 by_cases e:j=k
 .subst e;rw[hy]at hz;cases hz;exact br
 .exact h j z (by omega) hz
def kz (n:Int) (l:List (Int×Int)) (k:Nat):Prop:=∀j x,j<k->l[j]?=some x->BO n x/\iO l x j
theorem kz.zero (n:Int) (l:List (Int×Int)):kz n l 0:=fun j y h=>by omega
theorem kz.succ {l:List (Int×Int)} (h:kz n l k) (hx:l[k]?=some x) (h1:BO n x) (h2:iO l x k):kz n l (k+1):=fun j z hj hz=>by
 by_cases e:j=k
 .subst e;rw[hx]at hz;cases hz;exact⟨h1,h2⟩
 .exact h j z (by omega) hz
structure kA (b:av):Prop where
 many:b.apart.length<=5
 all:kz b.parts.length b.apart b.apart.length
theorem sr (w:World) (v:Value) (b:av) (hb:aD w v b) (hp:1<=b.parts.length/\b.parts.length<=5):
 Calls ZP 85 #[v] w (ci w fun s=>s=0↔kA b):=by
 obtain⟨v2,v3,v4,rfl,⟨a2,c2,h2,f2⟩,⟨a3,c3,h3,f3⟩,h4⟩:=hb;have H3:Hid (cn w v3 b.apart.length a3 c3/\_):=⟨h3,f3⟩
 obtain⟨rfl,l2,m2,n2,r2⟩:=h2;obtain⟨rfl,l3,m3,n3,r3⟩:=h3;unfold maxLen at m2 m3;clear r2 f2 n2 r3 f3 n3 h4;have lq:wrap64 ((b.parts.length:Int)-1)=b.parts.length-1:=by unfold wrap64;omega
 go_enter ZF85,Tryz.ntmps85
 go_wp2
 .rename_i hm;go_ret;exact ci.mk (r:=2) (bad (by decide) fun h=>by have:=h.many;omega) ((Below.refl _ _).alloc (Nat.le_refl _) _)
 rename_i hm;go_loopw [3] (fun i w1=>∃k:Nat,k<=b.apart.length/\Hid (kz b.parts.length b.apart k)/\i=.int .i64 k/\Hid (Below (w.heap.size+1) (w.alloc (.cells #[.int .i64 b.an,.int .i64 b.places,.slice a2 b.parts.length c2,.slice a3 b.apart.length c3,v4] 26)) w1)) (fun i _=>b.apart.length-(intOf i).toNat)
 case atStart=>exact⟨0,Nat.zero_le _,.zero _ _,rfl,Below.refl _ _⟩
 case round=>
  obtain⟨k,hk,hN,rfl,hB⟩:=hrel;have g2:=boxed hB.o 2;have g3:=boxed hB.o 3;simp only[List.getElem?_toArray,List.getElem?_cons_succ,List.getElem?_cons_zero]at g2 g3;by_cases aA:k<b.apart.length
  .obtain⟨⟨blk,off,sp⟩,⟨xa,xb⟩,rfl,hx,x0,x1⟩:=H3.o.1.elem H3.o.2 aA;obtain rfl:sp=none:=x0.1;have HX:=hid hx;have y0:=(x0.later (Kp.boxed hB.o)).2;have y1:=(x1.later (Kp.boxed hB.o)).2;simp only[<-Nat.add_assoc]at y0 y1;have mL:w.heap.size+1<=wr.heap.size:=by have:=hB.o.size;simp at this;omega
   have pG:blk<w.heap.size:=x0.lt;have SJ:∀o,(wr.alloc o).cell? ⟨w.heap.size,2,none⟩=some (.slice a2 b.parts.length c2):=fun o=>(eL (by show w.heap.size<_;omega) o).trans g2;have g3':∀o,(wr.alloc o).cell? ⟨w.heap.size,3,none⟩=some (.slice (some ⟨blk,off,none⟩) b.apart.length c3):=fun o=>(eL (by show w.heap.size<_;omega) o).trans g3;clear x0 x1 hx;go_wp2_with(go_at_call 19;refine(LB _ _ _ _).mono ?_;rintro e w' ⟨r,rfl,hr,rfl⟩;cases r)
   .go_ret;exact ci.mk (r:=6) (bad (by decide) fun h=>hr.f (h.all k _ aA HX.o).1.one) (Below.one (Below.boxed hB.o) (by omega) _ 0)
   .go_ret;exact ci.mk (r:=6) (bad (by decide) fun h=>hr.f (h.all k _ aA HX.o).1.two) (Below.one (Below.boxed hB.o) (by omega) _ 0)
   .rename_i yh;go_ret;exact ci.mk (r:=7) (bad (by decide) fun h=>absurd (h.all k _ aA HX.o).1.le (by simp only;omega)) (Below.one (Below.boxed hB.o) (by omega) _ 0)
   rename_i t7 hle;have HK:Hid (BO b.parts.length (xa,xb)):=⟨t7.t,hr.t,hle⟩
   have HL:=hid aA;clear hr t7 hle;go_loopw [5] (fun i w2=>∃m:Nat,m<=k/\Hid (iO b.apart (xa,xb) m)/\i=.int .i64 m/\∃n,w2=(wr.alloc (.cells #[.int .i64 xa,.int .i64 xb] 119)).drewN n) (fun i _=>k-(intOf i).toNat)
   case atStart=>exact⟨0,Nat.zero_le _,.zero _ _,rfl,0,rfl⟩
   case round=>
    obtain⟨m,hm2,hM,rfl,n0,rfl⟩:=hrel;by_cases i7:m<k
    .obtain⟨b',⟨ya,yb⟩,Ir,hy,z0,z1⟩:=H3.o.1.elem H3.o.2 (show m<b.apart.length by have:=HL.o;omega);cases Ir;have q0:=((z0.later (Kp.boxed hB.o)).later (Kp.alloc wr (.cells #[.int .i64 xa,.int .i64 xb] 119))).2;have q1:=((z1.later (Kp.boxed hB.o)).later (Kp.alloc wr (.cells #[.int .i64 xa,.int .i64 xb] 119))).2;simp only[<-Nat.add_assoc]at q0 q1;have HY:=hid hy;have Uy:(m:Int)<(k:Int):=by omega
     have JT:(m:Int)<(b.apart.length:Int):=by omega
     clear hy z0 z1;have hB1:=Below.one (Below.boxed hB.o) (by omega) (.cells #[.int .i64 xa,.int .i64 xb] 119);have dF:=hid hB1;clear hB1;by_cases e1:ya=xa
     .by_cases e2:yb=xb
      .subst e1 e2;go_wp2
       go_quiet (fail)
       go_wp2
       go_ret;exact ci.mk (r:=5) (bad (by decide) fun h=>(h.all k _ HL.o HX.o).2 m _ i7 HY.o rfl) (Below.drewN (dF.o _) _)
      .subst e1;have br:Hid ((ya,yb)≠(ya,xb)):=(fun h=>e2 (by cases h;rfl):(ya,yb)≠(ya,xb))
       go_wp2
       go_quiet (fail)
       go_wp2
       go_round
       case rel=>exact⟨m+1,by omega,hM.o.succ HY.o br.o,by go_num,_,rfl⟩
       case measure=>simp[intOf];omega
     .have br:Hid ((ya,yb)≠(xa,xb)):=(fun h=>e1 (by cases h;rfl):(ya,yb)≠(xa,xb))
      go_wp2
      go_quiet (fail)
      go_wp2
      go_round
      case rel=>exact⟨m+1,by omega,hM.o.succ HY.o br.o,by go_num,_,rfl⟩
      case measure=>simp[intOf];omega
    .have HM:Hid (iO b.apart (xa,xb) k):=(by have e:m=k:=by omega
                                             subst e;exact hM.o)
     go_wp2
     go_round
     case rel=>exact⟨k+1,by omega,hN.o.succ HX.o HK.o HM.o,by go_num,Below.one hB.o (by omega) _ _⟩
     case measure=>simp[intOf];omega
  .go_wp2
   go_ret;have e:k=b.apart.length:=by omega
   subst e;exact ci.mk (r:=0) ⟨fun _=>⟨by omega,hN.o⟩,fun _=>rfl⟩ (Below.boxed hB.o)
def wR (x:Int×Int) (p q:Int):Prop:=x.1=p/\x.2=q\/x.1=q/\x.2=p
def Apart (l:List (Int×Int)) (p q:Int):Prop:=∃x∈l,wR x p q
def qu (l:List (Int×Int)) (p q:Int) (k:Nat):Prop:=∀j x,j<k->l[j]?=some x->¬wR x p q
theorem qu.zero (l:List (Int×Int)) (p q:Int):qu l p q 0:=fun j y h=>by omega
theorem qu.succ {l:List (Int×Int)} (h:qu l p q k) (hy:l[k]?=some x) (br:¬wR x p q):qu l p q (k+1):=fun j z hj hz=>by
 by_cases e:j=k
 .subst e;rw[hy]at hz;cases hz;exact br
 .exact h j z (by omega) hz
theorem qu.all {l:List (Int×Int)} (h:qu l p q l.length):¬Apart l p q:=fun⟨x,hm,hx⟩=>by
 obtain⟨j,hj,rfl⟩:=List.getElem_of_mem hm;exact h j _ hj (List.getElem?_eq_getElem hj) hx
theorem qv (w:World) (v:Value) (b:av) (p q:Int) (hb:aD w v b):
 Calls ZP 98 #[v,.int .i64 p,.int .i64 q] w (cW w fun r=>Tr r (Apart b.apart p q)):=by
 obtain⟨v2,v3,v4,rfl,h2,⟨a3,c3,h3,f3⟩,h4⟩:=hb;have H3:Hid (cn w v3 b.apart.length a3 c3/\_):=⟨h3,f3⟩
 obtain⟨rfl,l3,m3,n3,r3⟩:=h3;obtain⟨a2,c2,⟨rfl,_,_,_,_⟩,_⟩:=h2;obtain⟨a4,c4,⟨rfl,_,_,_,_⟩,_⟩:=h4;unfold maxLen at m3;clear r3 f3 n3;go_enter ZF98,Tryz.ntmps98
 go_wp2
 go_loopw [7] (fun i w1=>∃k:Nat,k<=b.apart.length/\Hid (qu b.apart p q k)/\i=.int .i64 k/\Hid (Below (w.heap.size+1) (w.alloc (.cells #[.int .i64 b.an,.int .i64 b.places,.slice a2 b.parts.length c2,.slice a3 b.apart.length c3,.slice a4 b.ac.length c4] 26)) w1)) (fun i _=>b.apart.length-(intOf i).toNat)
 case atStart=>exact⟨0,Nat.zero_le _,.zero _ _ _,rfl,Below.refl _ _⟩
 case round=>
  obtain⟨k,hk,hN,rfl,hB⟩:=hrel;have g3:=boxed hB.o 3;simp only[List.getElem?_toArray,List.getElem?_cons_succ,List.getElem?_cons_zero]at g3;by_cases aA:k<b.apart.length
  .obtain⟨⟨blk,off,sp⟩,⟨xa,xb⟩,rfl,hx,x0,x1⟩:=H3.o.1.elem H3.o.2 aA;obtain rfl:sp=none:=x0.1;have HX:=hid hx;have y0:=(x0.later (Kp.boxed hB.o)).2;have y1:=(x1.later (Kp.boxed hB.o)).2;simp only[<-Nat.add_assoc]at y0 y1;have mL:w.heap.size+1<=wr.heap.size:=by have:=hB.o.size;simp at this;omega
   have HZ:=hid mL;clear x0 x1 hx;by_cases e:wR (xa,xb) p q
   .have hm:=List.mem_of_getElem? HX.o;rcases(show xa=p/\xb=q\/xa=q/\xb=p from e)with⟨rfl,rfl⟩|⟨rfl,rfl⟩
    .go_wp2
     go_ret;exact cW.mk (.yes ⟨_,hm,.inl ⟨rfl,rfl⟩⟩) (Below.one (Below.boxed hB.o) (by omega) _ 0)
    .by_cases e3:xa=xb
     .subst e3;go_wp2
      go_ret;exact cW.mk (.yes ⟨_,hm,.inl ⟨rfl,rfl⟩⟩) (Below.one (Below.boxed hB.o) (by omega) _ 0)
     .go_wp2
      go_ret;exact cW.mk (.yes ⟨_,hm,.inr ⟨rfl,rfl⟩⟩) (Below.one (Below.boxed hB.o) (by omega) _ 0)
   .have HE:=hid e;have e1:¬(xa=p/\xb=q):=fun h=>e (.inl h);have e2:¬(xa=q/\xb=p):=fun h=>e (.inr h);clear e;by_cases a1:xa=p
    .subst a1;have a2:¬xb=q:=fun h=>e1 ⟨rfl,h⟩;clear e1;by_cases a3:xa=q
     .subst a3;clear e2;go_wp2
      go_round
      case rel=>exact⟨k+1,by omega,hN.o.succ HX.o HE.o,by go_num,Below.one hB.o HZ.o _ 0⟩
      case measure=>simp[intOf];omega
     .clear e2;go_wp2
      go_round
      case rel=>exact⟨k+1,by omega,hN.o.succ HX.o HE.o,by go_num,Below.one hB.o HZ.o _ 0⟩
      case measure=>simp[intOf];omega
    .clear e1;by_cases a3:xa=q
     .subst a3;have a4:¬xb=p:=fun h=>e2 ⟨rfl,h⟩;clear e2;go_wp2
      go_round
      case rel=>exact⟨k+1,by omega,hN.o.succ HX.o HE.o,by go_num,Below.one hB.o HZ.o _ 0⟩
      case measure=>simp[intOf];omega
     .clear e2;go_wp2
      go_round
      case rel=>exact⟨k+1,by omega,hN.o.succ HX.o HE.o,by go_num,Below.one hB.o HZ.o _ 0⟩
      case measure=>simp[intOf];omega
  .go_wp2
   go_ret;have e:k=b.apart.length:=by omega
   subst e;exact cW.mk (.no hN.o.all) (Below.boxed hB.o)
def am (w0:World):Type:={w:World//Below w0.heap.size w0 w}
instance (w0 : World) : Nonempty (am w0) := ⟨⟨w0, Below.refl _ _⟩⟩
theorem am.cell (X:am w0) {a:Addr} {v:Value} (h:w0.cell? a=some v):X.1.cell? a=some v:=by
 have hk:a.block<w0.heap.size:=by
  unfold World.cell? at h;split at h
  .rename_i hx;exact(Array.getElem?_eq_some_iff.1 hx).1
  .cases h
 exact(World.cell?_of_block (X.2.block _ hk)).trans h
theorem am.kp (X:am w0):Kp w0 X.1:=Kp.of X.2
theorem am.on (X:am w0) (h:Below X.1.heap.size X.1 w):∃Y:am w0,w=Y.1:=⟨⟨w,X.2.trans (h.mono X.2.size)⟩,rfl⟩
theorem am.same (X:am w0) (h:w=X.1):∃Y:am w0,w=Y.1:=⟨X,h⟩
theorem aq {P:Program} {id:Nat} {Q:Exit->Act->World->Prop} {a:Act} {l:List Oper} (hm:P.follows .mixedOrders=true) (hB:Region.lexB .any l.toArray=true)
 (h:wpQuiet P l.toArray (fun w'=>∃X:am w,w'=X.1) (fun a'=>∀w',(∃X:am w,w'=X.1)->Q .normal a' w') l a):(Code.region id l.toArray true).wp P Q a w:=
 wp_region_quiet (C:=fun w'=>∃X:am w,w'=X.1) hm hB ⟨⟨_,Below.drewN (Below.refl _ w) 1⟩,rfl⟩ (by simpa using h)
def oG (l:List Int) (n:Int) (k:Nat):Prop:=∀(j:Nat) (x:Int),j<k->l[j]?=some x->0<=x/\x<=n-1
theorem oG.zero (l:List Int) (n:Int):oG l n 0:=fun j y h=>by omega
theorem oG.succ {l:List Int} {x:Int} (h:oG l n k) (hy:l[k]?=some x) (br:0<=x/\x<=n-1):oG l n (k+1):=fun j z hj hz=>by
 by_cases e:j=k
 .subst e;rw[hy]at hz;cases hz;exact br
 .exact h j z (by omega) hz
structure Dp (b:av) (l:List Int) (j:Nat) (x:Int):Prop where
 fits:∃P,b.parts[x.toNat]?=some P/\(j:Int)∈P.fits
 R6:0<j->∀y,l[j-1]?=some y->¬Apart b.apart y x
def mN (b:av) (l:List Int) (k:Nat):Prop:=∀j x,j<k->l[j]?=some x->Dp b l j x
theorem mN.zero (b:av) (l:List Int):mN b l 0:=fun j y h=>by omega
theorem mN.succ {b:av} {l:List Int} {x:Int} (h:mN b l k) (hy:l[k]?=some x) (br:Dp b l k x):mN b l (k+1):=fun j z hj hz=>by
 by_cases e:j=k
 .subst e;rw[hy]at hz;cases hz;exact br
 .exact h j z (by omega) hz
structure bY (b:av) (l:List Int):Prop where
 len:(l.length:Int)=b.places
 range:oG l b.parts.length l.length
 fit:mN b l l.length
open Classical in
noncomputable def dY (b:av) (l:List Int):Int:=
 if(l.length:Int)=b.places then if oG l b.parts.length l.length then if mN b l l.length then 0 else 3 else 6 else 2
section
variable {b:av} {l:List Int}
theorem oH (h:¬(l.length:Int)=b.places):2=dY b l:=by unfold dY;rw[if_neg h]
theorem qw (h:(l.length:Int)=b.places) (h2:¬oG l b.parts.length l.length):6=dY b l:=by unfold dY;rw[if_pos h,if_neg h2]
theorem kB (h:(l.length:Int)=b.places) (h2:oG l b.parts.length l.length) (h3:¬mN b l l.length):3=dY b l:=by unfold dY;rw[if_pos h,if_pos h2,if_neg h3]
theorem qx (h:bY b l):0=dY b l:=by unfold dY;rw[if_pos h.len,if_pos h.range,if_pos h.fit]
theorem mO:dY b l=0↔bY b l:=by
 refine⟨fun h=>?_,fun h=>(qx h).symm⟩;by_cases h1:(l.length:Int)=b.places
 .by_cases h2:oG l b.parts.length l.length
  .by_cases h3:mN b l l.length
   .exact⟨h1,h2,h3⟩
   .rw[<-kB h1 h2 h3]at h;cases h
  .rw[<-qw h1 h2]at h;cases h
 .rw[<-oH h1]at h;cases h
end
structure pO (w:World) (g:Nat) (v0 v1 v2 v3 v4:Value):Prop where
 c0:w.cell? ⟨g,0,none⟩=some v0
 c1:w.cell? ⟨g,1,none⟩=some v1
 c2:w.cell? ⟨g,2,none⟩=some v2
 c3:w.cell? ⟨g,3,none⟩=some v3
 c4:w.cell? ⟨g,4,none⟩=some v4
theorem pO.of {w1:World} {v0 v1 v2 v3 v4:Value} (h:Below (w.heap.size+1) (w.alloc (.cells #[v0,v1,v2,v3,v4] 26)) w1):pO w1 w.heap.size v0 v1 v2 v3 v4:=
 ⟨boxed h 0,boxed h 1,boxed h 2,boxed h 3,boxed h 4⟩
theorem pP (w:World) (v vl:Value) (b:av) (l:List Int) (hb:aD w v b) (hl:az w vl l) (hp:1<=b.parts.length/\b.parts.length<=5):
 Calls ZP 86 #[v,vl] w (ci w fun s=>s=dY b l):=by
 have HB:=hid hb;obtain⟨v2,v3,v4,rfl,⟨a2,c2,h2,f2⟩,⟨a3,c3,⟨rfl,_,_,_,_⟩,_⟩,⟨a4,c4,⟨rfl,_,_,_,_⟩,_⟩⟩:=hb;obtain⟨al,cl,EQ,fl⟩:=hl;have H2:Hid (cn w v2 b.parts.length a2 c2/\_):=⟨h2,f2⟩
 have HL:Hid (cn w vl l.length al cl/\_):=⟨EQ,fl⟩
 obtain⟨rfl,l2,m2,n2,r2⟩:=h2;obtain⟨rfl,ll,ml,nl,rl⟩:=EQ;unfold maxLen at m2 ml;clear r2 f2 n2 rl fl nl;have lq:wrap64 ((b.parts.length:Int)-1)=b.parts.length-1:=by unfold wrap64;omega
 go_enter ZF86,Tryz.ntmps86
 by_cases hlen:(l.length:Int)=b.places
 case neg=>
  go_wp2
  go_ret;exact ci.mk (r:=2) (oH hlen) ((Below.refl _ _).alloc (Nat.le_refl _) _)
 have LD:=hid hlen;have br:((l.length:Int)!=b.places)=false:=by simp[hlen]
 clear hlen;go_wp2
 go_loopw [5] (fun i w1=>∃k:Nat,k<=l.length/\Hid (oG l b.parts.length k)/\i=.int .i64 k/\Hid (Below (w.heap.size+1) (w.alloc (.cells #[.int .i64 b.an,.int .i64 b.places,.slice a2 b.parts.length c2,.slice a3 b.apart.length c3,.slice a4 b.ac.length c4] 26)) w1)) (fun i _=>l.length-(intOf i).toNat)
 case atStart=>exact⟨0,Nat.zero_le _,.zero _ _,rfl,Below.refl _ _⟩
 case round=>
  obtain⟨k,hk,hN,rfl,hB⟩:=hrel;obtain⟨g0,g1,g2,g3,g4⟩:=pO.of hB.o;by_cases aA:k<l.length
  .obtain⟨⟨blk,off,sp⟩,x,rfl,hx,x0⟩:=HL.o.1.elem HL.o.2 aA;obtain rfl:sp=none:=x0.1;have HX:=hid hx;have y0:=(x0.later (Kp.boxed hB.o)).2;simp only at y0;have ka:(k:Int)<(l.length:Int):=by omega
   clear x0 hx;by_cases e:0<=x/\x<=(b.parts.length:Int)-1
   .have HE:=hid e;have hd:(decide (0<=x)&&decide (x<=(b.parts.length:Int)-1))=true:=by simpa using e
    clear e;go_wp2
    go_quiet ((go_at_call 19;exact(pN _ _ _ _).mono fun e w' h=>⟨h.1.trans (by rw[hd]),_,h.2⟩))
    go_wp2
    go_round
    case rel=>exact⟨k+1,by omega,hN.o.succ HX.o HE.o,by go_num,Below.drewN hB.o _⟩
    case measure=>simp[intOf];omega
   .have HE:=hid e
    have hd:(decide (0<=x)&&decide (x<=(b.parts.length:Int)-1))=false:=by
     cases hh:(decide (0<=x)&&decide (x<=(b.parts.length:Int)-1))with
     |false=>rfl
     |true=>exact absurd (by simpa using hh) e
    clear e;go_wp2
    go_quiet ((go_at_call 19;exact(pN _ _ _ _).mono fun e w' h=>⟨h.1.trans (by rw[hd]),_,h.2⟩))
    go_wp2
    go_ret;exact ci.mk (r:=6) (qw LD.o fun h=>HE.o (h k x aA HX.o)) (Below.drewN (Below.boxed hB.o) _)
  .have HN:Hid (oG l b.parts.length l.length):=(by have e:k=l.length:=by omega
                                                   subst e;exact hN.o)
   clear hN;go_wp2
   go_loopw [6] (fun i w1=>∃k:Nat,k<=l.length/\Hid (mN b l k)/\i=.int .i64 k/\Hid (Below (w.heap.size+1) (w.alloc (.cells #[.int .i64 b.an,.int .i64 b.places,.slice a2 b.parts.length c2,.slice a3 b.apart.length c3,.slice a4 b.ac.length c4] 26)) w1)) (fun i _=>l.length-(intOf i).toNat)
   case atStart=>exact⟨0,Nat.zero_le _,.zero _ _,rfl,hB.o⟩
   case round=>
    clear g0 g1 g2 g3 g4 hB aA hk;obtain⟨k,hk,hN,rfl,hB⟩:=hrel;have gg:=pO.of hB.o;by_cases aA:k<l.length
    .obtain⟨⟨blk,off,sp⟩,x,rfl,hx,x0⟩:=HL.o.1.elem HL.o.2 aA;obtain rfl:sp=none:=x0.1;obtain⟨xn,rfl⟩:=Int.eq_ofNat_of_zero_le (HN.o k x aA hx).1;have hxr:=(HN.o k xn aA hx).2;have Cu:xn<b.parts.length:=by omega
     obtain⟨⟨pb,po,ps⟩,P,rfl,hP,_,_,_,_,_,vf,p5,Dq⟩:=H2.o.1.elem H2.o.2 Cu;obtain rfl:ps=none:=p5.1;have hf:=Dq;obtain⟨af,cf,⟨rfl,_,_,_,_⟩,_⟩:=Dq;have HX:Hid (l[k]?=some (xn:Int)/\b.parts[xn]?=some P):=⟨hx,hP⟩
     have G0:=fun X:am wr=>X.cell gg.c0;have G1:=fun X:am wr=>X.cell gg.c1;have G2:=fun X:am wr=>X.cell gg.c2;have G3:=fun X:am wr=>X.cell gg.c3;have G4:=fun X:am wr=>X.cell gg.c4;have Y0:=fun X:am wr=>X.cell (x0.later (Kp.boxed hB.o)).2;have Y5:=fun X:am wr=>X.cell (p5.later (Kp.boxed hB.o)).2;simp only[<-Nat.add_assoc]at Y0 Y5;have ka:(k:Int)<(l.length:Int):=by omega
     have hx2:(xn:Int)<(b.parts.length:Int):=by omega
     have hz:Hid (w.heap.size+1<=wr.heap.size):=by have:=hB.o.size;simp at this;exact(by omega:w.heap.size+1<=wr.heap.size)
     clear x0 hx hP p5 gg
     have wS:∀X:am wr,Calls ZP 20 #[.slice af P.fits.length cf,.int .i64 k] X.1 (fun e iU=>e=.returned (.bool (decide ((k:Int)∈P.fits)))/\∃Y:am wr,iU=Y.1):=fun X=>
      (q7 _ _ _ _ ((hf.later (Kp.boxed hB.o)).later X.kp)).mono fun e w' h=>⟨h.1,X.same h.2⟩
     by_cases su:(k:Int)∈P.fits
     .have HF:Hid (∃P,b.parts[((xn:Int)).toNat]?=some P/\(k:Int)∈P.fits):=⟨P,by simpa using HX.o.2,su⟩
      rw[decide_eq_true su]at wS;clear su;by_cases oY:0<k
      .obtain⟨b',z,Ir,Nv,z0⟩:=HL.o.1.elem HL.o.2 (show k-1<l.length by omega);cases Ir;have Z0:=fun X:am wr=>X.cell (z0.later (Kp.boxed hB.o)).2;simp only at Z0;have HZ:Hid (l[k-1]?=some z):=Nv;have j8:wrap64 ((k:Int)-1)=((k-1:Nat):Int):=by unfold wrap64;omega
       have kc:(0:Int)<(k:Int):=by omega
       have lg:((k-1:Nat):Int)<(l.length:Int):=by omega
       clear z0 Nv
       have pQ:∀X:am wr,Calls ZP 98 #[.agg #[.int .i64 b.an,.int .i64 b.places,.slice (some ⟨pb,po,none⟩) b.parts.length c2,.slice a3 b.apart.length c3,.slice a4 b.ac.length c4],.int .i64 z,.int .i64 xn] X.1 (fun e iU=>(∃r,e=.returned (.bool r)/\Tr r (Apart b.apart z xn))/\∃Y:am wr,iU=Y.1):=fun X=>
        (qv _ _ _ _ _ ((HB.o.later (Kp.boxed hB.o)).later X.kp)).mono fun e w' h=>⟨h.1,X.on h.2⟩
       by_cases tO:Apart b.apart z xn
       .have HA:=hid tO
        have pQ:∀X:am wr,Calls ZP 98 #[.agg #[.int .i64 b.an,.int .i64 b.places,.slice (some ⟨pb,po,none⟩) b.parts.length c2,.slice a3 b.apart.length c3,.slice a4 b.ac.length c4],.int .i64 z,.int .i64 xn] X.1 (fun e iU=>e=.returned (.bool true)/\∃Y:am wr,iU=Y.1):=fun X=>
         (pQ X).mono fun e w' ⟨⟨r,h1,h2⟩,h3⟩=>⟨by rw[h1,h2.2 tO],h3⟩
        clear tO;go_wp2
        refine aq (by kernel_rfl) (by kernel_rfl) ?_;repeat(go_big_quiet_step (first|(go_at_call 20;exact wS _)|(go_at_call 98;exact pQ _)))
        refine wpQuiet_nil ?_;rintro _ ⟨X,rfl⟩;go_wp2
        go_ret;exact ci.mk (r:=3) (kB LD.o HN.o fun h=>(h k _ aA HX.o.1).R6 oY z HZ.o HA.o) ((Below.boxed hB.o).trans (X.2.mono (Nat.le_trans (Nat.le_succ _) hz.o)))
       .have HA:Hid (Dp b l k xn):=⟨HF.o,fun _ y hy=>by rw[HZ.o]at hy;cases hy;exact tO⟩
        have pQ:∀X:am wr,Calls ZP 98 #[.agg #[.int .i64 b.an,.int .i64 b.places,.slice (some ⟨pb,po,none⟩) b.parts.length c2,.slice a3 b.apart.length c3,.slice a4 b.ac.length c4],.int .i64 z,.int .i64 xn] X.1 (fun e iU=>e=.returned (.bool false)/\∃Y:am wr,iU=Y.1):=fun X=>
         (pQ X).mono fun e w' ⟨⟨r,h1,h2⟩,h3⟩=>⟨by cases r with
           |false=>exact h1
           |true=>exact absurd h2.t tO,h3⟩
        clear tO;go_wp2
        refine aq (by kernel_rfl) (by kernel_rfl) ?_;repeat(go_big_quiet_step (first|(go_at_call 20;exact wS _)|(go_at_call 98;exact pQ _)))
        refine wpQuiet_nil ?_;rintro _ ⟨X,rfl⟩;go_wp2
        go_round
        case rel=>exact⟨k+1,by omega,hN.o.succ HX.o.1 HA.o,by go_num,hB.o.trans (X.2.mono hz.o)⟩
        case measure=>simp[intOf];omega
      .have HA:Hid (Dp b l k xn):=⟨HF.o,fun h=>absurd h oY⟩
       have kc:¬(0:Int)<(k:Int):=by omega
       go_wp2
       refine aq (by kernel_rfl) (by kernel_rfl) ?_;repeat(go_big_quiet_step (first|(go_at_call 20;exact wS _)))
       refine wpQuiet_nil ?_;rintro _ ⟨X,rfl⟩;go_wp2
       go_round
       case rel=>exact⟨k+1,by omega,hN.o.succ HX.o.1 HA.o,by go_num,hB.o.trans (X.2.mono hz.o)⟩
       case measure=>simp[intOf];omega
     .have HF:=hid su;rw[decide_eq_false su]at wS;clear su;go_wp2
      refine aq (by kernel_rfl) (by kernel_rfl) ?_;repeat(go_big_quiet_step (first|(go_at_call 20;exact wS _)))
      refine wpQuiet_nil ?_;rintro _ ⟨X,rfl⟩;go_wp2
      go_ret
      exact ci.mk (r:=3) (kB LD.o HN.o fun h=>by
       obtain⟨P',P1,hm⟩:=(h k _ aA HX.o.1).fits;simp only[Int.toNat_natCast]at P1;rw[HX.o.2]at P1;cases P1;exact HF.o hm) ((Below.boxed hB.o).trans (X.2.mono (Nat.le_trans (Nat.le_succ _) hz.o)))
    .go_wp2
     go_ret;have e:k=l.length:=by omega
     subst e;exact ci.mk (r:=0) (qx ⟨LD.o,HN.o,hN.o⟩) (Below.boxed hB.o)
end Go.Proofs.Cz
namespace Go.Proofs.Cz
open Go.RowKit
structure wT (b:av) (t:iM):Prop where
 UA:bY b t.parts
 UB:0<=t.lo/\t.lo<=t.hi/\t.hi<=99
def gL (b:av) (k:Nat):Prop:=∀j t,j<k->b.ac[j]?=some t->wT b t
theorem gL.zero (b:av):gL b 0:=fun j y h=>by omega
theorem gL.succ {b:av} {x:iM} {k:Nat} (h:gL b k) (hy:b.ac[k]?=some x) (br:wT b x):gL b (k+1):=fun j z hj hz=>by
 by_cases e:j=k
 .subst e;rw[hy]at hz;cases hz;exact br
 .exact h j z (by omega) hz
structure Valid (b:av):Prop where
 an:1<=b.an/\b.an<=99
 places:1<=b.places/\b.places<=4
 parts:wQ b
 hQ:kA b
 many:b.ac.length<=4
 ac:gL b b.ac.length
end Go.Proofs.Cz
namespace Go.RowKit
theorem Below.jl {w w1:World} {o:Obj} (h:Below (w.alloc o).heap.size (w.alloc o) w1):Below (w.heap.size+1) (w.alloc o) w1:=by simpa using h
end Go.RowKit
namespace Go.Proofs.Cz
open Go.RowKit
end Go.Proofs.Cz
namespace Go.RowKit
theorem Below.jS {w w1 w2:World} {o:Obj} (h:Below (w.alloc o).heap.size (w.alloc o) w1) (k:Below w1.heap.size w1 w2):Below (w.heap.size+1) (w.alloc o) w2:=Below.jl (h.trans (k.mono h.size))
end Go.RowKit
namespace Go.Proofs.Cz
open Go.RowKit
theorem wU (w:World) (v:Value) (b:av) (hb:aD w v b) (hs:uI b):
 Calls ZP 41 #[v] w (ci w fun s=>s=0↔Valid b):=by
 have HB:=hid hb;obtain⟨v2,v3,v4,rfl,⟨a2,c2,⟨rfl,_,_,_,_⟩,_⟩,⟨a3,c3,⟨rfl,_,_,_,_⟩,_⟩,⟨a4,c4,h4,f4⟩⟩:=hb;have H4:Hid (cn w v4 b.ac.length a4 c4/\_):=⟨h4,f4⟩
 obtain⟨rfl,l4,m4,n4,r4⟩:=h4;unfold maxLen at m4;clear r4 f4 n4;go_enter ZF41,Tryz.ntmps41
 have dF:=HB.o.later (Kp.alloc w (.cells #[.int .i64 b.an,.int .i64 b.places,.slice a2 b.parts.length c2,.slice a3 b.apart.length c3,.slice a4 b.ac.length c4] 26))
 go_wp2_with(first
  |(go_at_call 19;refine(LB _ _ _ _).mono ?_;rintro e w' ⟨r,rfl,hr,rfl⟩;cases r)
  |(go_at_call 84;refine(sq _ _ _ dF hs hr.t).mono ?_;rintro e w1 ⟨⟨r,rfl,P2⟩,ig⟩;by_cases UC:r=0;obtain⟨g0,g1,g2,g3,g4⟩:=pO.of ig.jl)
  |(go_at_call 85;refine(sr _ _ _ (HB.o.later (Kp.boxed ig.jl)) (P2.1 UC).many).mono ?_;rintro e w2 ⟨⟨r2,rfl,Nq⟩,kQ⟩;by_cases RA:r2=0;obtain⟨q0,q1,q2,q3,q4⟩:=pO.of (ig.jS kQ)))
 .go_ret;exact ci.mk (r:=1) (bad (by decide) fun h=>hr.f h.an) ((Below.refl _ _).alloc (Nat.le_refl _) _)
 .go_ret;exact ci.mk (r:=1) (bad (by decide) fun h=>hr.f h.places) ((Below.refl _ _).alloc (Nat.le_refl _) _)
 .rename_i ZA;go_ret;exact ci.mk (r:=2) (bad (by decide) fun h=>by have:=h.many;omega) (Below.boxed (ig.jS kQ))
 .have HV:Hid ((1<=b.an/\b.an<=99)/\(1<=b.places/\b.places<=4)/\wQ b/\kA b/\b.ac.length<=4):=by
   exact⟨Tr.t (by assumption),hr.t,P2.1 UC,Nq.1 RA,by omega⟩
  have JU:Hid (Below (w.heap.size+1) (w.alloc (.cells #[.int .i64 b.an,.int .i64 b.places,.slice a2 b.parts.length c2,.slice a3 b.apart.length c3,.slice a4 b.ac.length c4] 26)) w2):=ig.jS kQ;clear hr P2 Nq ig kQ UC RA q0 q1 q2 q3 q4 g0 g1 g2 g3 g4;go_loopw [5] (fun i w1=>∃k:Nat,k<=b.ac.length/\Hid (gL b k)/\i=.int .i64 k/\Hid (Below (w.heap.size+1) (w.alloc (.cells #[.int .i64 b.an,.int .i64 b.places,.slice a2 b.parts.length c2,.slice a3 b.apart.length c3,.slice a4 b.ac.length c4] 26)) w1)) (fun i _=>b.ac.length-(intOf i).toNat)
  case atStart=>exact⟨0,Nat.zero_le _,.zero _,rfl,JU⟩
  case round=>
   obtain⟨k,hk,hN,rfl,hB⟩:=hrel;have gg:=pO.of hB.o;by_cases aA:k<b.ac.length
   .obtain⟨⟨blk,off,sp⟩,t,rfl,hx,⟨vf,x0,hf⟩,x1,x2⟩:=H4.o.1.elem H4.o.2 aA;obtain rfl:sp=none:=x0.1;have CE:=hf;obtain⟨af,cf,⟨rfl,_,_,_,_⟩,_⟩:=hf;have HX:=hid hx;obtain⟨s0,s1,s2,s3,s4⟩:=gg;have G0:=fun X:am wr=>X.cell s0;have G1:=fun X:am wr=>X.cell s1;have G2:=fun X:am wr=>X.cell s2;have G3:=fun X:am wr=>X.cell s3;have G4:=fun X:am wr=>X.cell s4;have Y0:=fun X:am wr=>X.cell (x0.later (Kp.boxed hB.o)).2;have Y1:=fun X:am wr=>X.cell (x1.later (Kp.boxed hB.o)).2;have Y2:=fun X:am wr=>X.cell (x2.later (Kp.boxed hB.o)).2;simp only[<-Nat.add_assoc]at Y0 Y1 Y2;have ka:(k:Int)<(b.ac.length:Int):=by omega
    have hz:Hid (w.heap.size+1<=wr.heap.size):=by have:=hB.o.size;simp at this;exact(by omega:w.heap.size+1<=wr.heap.size)
    have Nw:∀X:am wr,Calls ZP 86 #[.agg #[.int .i64 b.an,.int .i64 b.places,.slice a2 b.parts.length c2,.slice a3 b.apart.length c3,.slice (some ⟨blk,off,none⟩) b.ac.length c4],.slice af t.parts.length cf] X.1 (fun e iU=>e=.returned (.int .i64 (dY b t.parts))/\∃Y:am wr,iU=Y.1):=fun X=>
     (pP _ _ _ _ _ ((HB.o.later (Kp.boxed hB.o)).later X.kp) ((CE.later (Kp.boxed hB.o)).later X.kp) HV.o.2.2.1.many).mono fun e w' ⟨⟨r,h1,h2⟩,h3⟩=>⟨by rw[h1,h2],X.on h3⟩
    clear CE x0 x1 x2 hx;by_cases hmb:dY b t.parts=0
    .have HM:Hid (bY b t.parts):=mO.1 hmb;go_wp2
     refine aq (by kernel_rfl) (by kernel_rfl) ?_;repeat(go_big_quiet_step (first|(go_at_call 86;exact Nw _)))
     refine wpQuiet_nil ?_;rintro _ ⟨X,rfl⟩;go_wp2_with(go_at_call 87;refine(si _ _ _ _ _).mono ?_;rintro e w' ⟨r,rfl,hr,rfl⟩;cases r)
     .go_ret;exact ci.mk (r:=1) (bad (by decide) fun h=>hr.f (h.ac k _ aA HX.o).UB) (Below.alloc ((Below.boxed hB.o).trans (X.2.mono (Nat.le_trans (Nat.le_succ _) hz.o))) (Nat.le_trans (Nat.le_trans (Nat.le_succ _) hz.o) X.2.size) _)
     .have HT:Hid (wT b t):=⟨HM.o,hr.t⟩
      clear hr;go_round
      case rel=>exact⟨k+1,by omega,hN.o.succ HX.o HT.o,by go_num,Below.alloc (hB.o.trans (X.2.mono hz.o)) (Nat.le_trans hz.o X.2.size) _⟩
      case measure=>simp[intOf];omega
    .have HM:Hid (¬bY b t.parts):=fun h=>hmb (mO.2 h);go_wp2
     refine aq (by kernel_rfl) (by kernel_rfl) ?_;repeat(go_big_quiet_step (first|(go_at_call 86;exact Nw _)))
     refine wpQuiet_nil ?_;rintro _ ⟨X,rfl⟩;go_wp2
     go_ret;exact ci.mk (bad hmb fun h=>HM.o (h.ac k _ aA HX.o).UA) ((Below.boxed hB.o).trans (X.2.mono (Nat.le_trans (Nat.le_succ _) hz.o)))
   .have HN:Hid (gL b b.ac.length):=(by have e:k=b.ac.length:=by omega
                                        subst e;exact hN.o)
    obtain⟨s0,s1,s2,s3,s4⟩:=gg;go_wp2
    go_ret;exact ci.mk (r:=0) ⟨fun _=>⟨HV.o.1,HV.o.2.1,HV.o.2.2.1,HV.o.2.2.2.1,HV.o.2.2.2.2,HN.o⟩,fun _=>rfl⟩ (Below.boxed hB.o)
 .go_ret;exact ci.mk (bad RA fun h=>RA (Nq.2 h.hQ)) (Below.boxed (ig.jS kQ))
 .go_ret;exact ci.mk (bad UC fun h=>UC (P2.2 h.parts)) (Below.boxed ig.jl)
end Go.Proofs.Cz
namespace Go.Proofs.Cz
open Go.RowKit
theorem LE (w:World) (v:Value) (b:av) (hb:aD w v b):
 Calls ZP 9 #[v] w (cW w fun r=>r=true->uI b/\Valid b):=by
 have HB:=hid hb;obtain⟨v2,v3,v4,rfl,⟨a2,c2,⟨rfl,_,_,_,_⟩,_⟩,⟨a3,c3,⟨rfl,_,_,_,_⟩,_⟩,⟨a4,c4,⟨rfl,_,_,_,_⟩,_⟩⟩:=hb;go_enter ZF9,Tryz.ntmps9
 have dF:=HB.o.later (Kp.alloc w (.cells #[.int .i64 b.an,.int .i64 b.places,.slice a2 b.parts.length c2,.slice a3 b.apart.length c3,.slice a4 b.ac.length c4] 26))
 go_wp2_with(first
  |(go_at_call 40;refine(E6 _ _ _ dF).mono ?_;rintro e w1 ⟨⟨r,rfl,P2⟩,ig⟩;cases r;have HS:Hid (uI b):=P2 rfl;clear P2;obtain⟨g0,g1,g2,g3,g4⟩:=pO.of ig.jl)
  |(go_at_call 41;refine(wU _ _ _ (HB.o.later (Kp.boxed ig.jl)) HS.o).mono ?_;rintro e w2 ⟨⟨r2,rfl,Nq⟩,kQ⟩;by_cases RA:r2=0))
 .have HV:Hid (Valid b):=Nq.1 RA;go_ret;exact cW.mk (fun _=>⟨HS.o,HV.o⟩) (Below.boxed (ig.jS kQ))
 .go_ret;exact cW.mk (fun h=>by simp_all) (Below.boxed (ig.jS kQ))
 .go_ret;exact cW.mk (fun h=>by cases h) (Below.boxed ig.jl)
end Go.Proofs.Cz
