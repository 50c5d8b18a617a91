/- A part. Conditions: none. -/
import Derived.Test.YtehbindidbgacaaGreatDoorT23
import Derived.Laws.StructEq
set_option linter.all false
set_option maxHeartbeats 8000000
namespace Go.Proofs.Cz
open Go.RowKit
variable {k:Nat} {n p q:Int} {w w0:World} {x:Int×Int}
@[go_sem] theorem Qe:ZP.eqGuardType ZP.depth 125=false:=by kernel_rfl
structure pr (n:Int) (x:Int×Int):Prop where
 one:0<=x.1/\x.1<=n-1
 two:0<=x.2/\x.2<=n-1
 le:x.1<=x.2
def gi (l:List (Int×Int)) (x:Int×Int) (k:Nat):Prop:=∀j y,j<k->l[j]?=some y->y≠x
theorem gi.zero (l:List (Int×Int)) (x:Int×Int):gi l x 0:=fun j y h=>by omega
theorem gi.succ {l:List (Int×Int)} {y:Int×Int} (h:gi l x k) (hy:l[k]?=some y) (bu:y≠x):gi l x (k+1):=fun j z hj hz=>by
 by_cases e:j=k
 .subst e;rw[hy]at hz;cases hz;exact bu
 .exact h j z (by omega) hz
def kd (n:Int) (l:List (Int×Int)) (k:Nat):Prop:=∀j x,j<k->l[j]?=some x->pr n x/\gi l x j
theorem kd.zero (n:Int) (l:List (Int×Int)):kd n l 0:=fun j y h=>by omega
theorem kd.succ {l:List (Int×Int)} (h:kd n l k) (hx:l[k]?=some x) (h1:pr n x) (h2:gi l x k):kd n l (k+1):=fun j z hj hz=>by
 by_cases e:j=k
 .subst e;rw[hx]at hz;cases hz;exact⟨h1,h2⟩
 .exact h j z (by omega) hz
structure eS (b:an):Prop where
 many:b.apart.length<=5
 all:kd b.parts.length b.apart b.apart.length
theorem si (w:World) (v:Value) (b:an) (hb:ap w v b) (hp:1<=b.parts.length/\b.parts.length<=5):
 Calls ZP 80 #[v] w (aV w fun s=>s=0↔eS b):=by
 obtain⟨v2,v3,v4,rfl,⟨a2,c2,h2,f2⟩,⟨a3,c3,h3,f3⟩,h4⟩:=hb;have H3:Hid (bA w v3 b.apart.length a3 c3/\_):=⟨h3,f3⟩
 obtain⟨rfl,l2,m2,n2,r2⟩:=h2;obtain⟨rfl,l3,m3,n3,r3⟩:=h3;unfold maxLen at m2 m3;clear r2 f2 n2 r3 f3 n3 h4;have kK:wrap64 ((b.parts.length:Int)-1)=b.parts.length-1:=by unfold wrap64;omega
 go_enter ZF80,Tryz.ntmps80
 go_wp2
 .rename_i hm;go_ret;exact aV.mk (r:=2) (bad (by decide) fun h=>by have:=h.many;omega) ((Below.refl _ _).alloc (Nat.le_refl _) _)
 rename_i hm;go_loopw [3] (fun i w1=>∃k:Nat,k<=b.apart.length/\Hid (kd b.parts.length b.apart k)/\i=.int .i64 k/\Hid (Below (w.heap.size+1) (w.alloc (.cells #[.int .i64 b.ah,.int .i64 b.places,.slice a2 b.parts.length c2,.slice a3 b.apart.length c3,v4] 26)) w1)) (fun i _=>b.apart.length-(intOf i).toNat)
 case atStart=>exact⟨0,Nat.zero_le _,.zero _ _,rfl,Below.refl _ _⟩
 case round=>
  obtain⟨k,hk,hN,rfl,hB⟩:=hrel;have g2:=boxed hB.o 2;have g3:=boxed hB.o 3;simp only[List.getElem?_toArray,List.getElem?_cons_succ,List.getElem?_cons_zero]at g2 g3;by_cases au:k<b.apart.length
  .obtain⟨⟨blk,off,sp⟩,⟨xa,xb⟩,rfl,hx,x0,x1⟩:=H3.o.1.elem H3.o.2 au;obtain rfl:sp=none:=x0.1;have HX:=hid hx;have y0:=(x0.later (Kp.boxed hB.o)).2;have y1:=(x1.later (Kp.boxed hB.o)).2;simp only[<-Nat.add_assoc]at y0 y1;have kM:w.heap.size+1<=wr.heap.size:=by have:=hB.o.size;simp at this;omega
   have mT:blk<w.heap.size:=x0.lt;have S4:∀o,(wr.alloc o).cell? ⟨w.heap.size,2,none⟩=some (.slice a2 b.parts.length c2):=fun o=>(dU (by show w.heap.size<_;omega) o).trans g2;have g3':∀o,(wr.alloc o).cell? ⟨w.heap.size,3,none⟩=some (.slice (some ⟨blk,off,none⟩) b.apart.length c3):=fun o=>(dU (by show w.heap.size<_;omega) o).trans g3;clear x0 x1 hx;go_wp2_with(go_at_call 20;refine(LN _ _ _ _).mono ?_;rintro e w' ⟨r,rfl,hr,rfl⟩;cases r)
   .go_ret;exact aV.mk (r:=6) (bad (by decide) fun h=>hr.f (h.all k _ au HX.o).1.one) (Below.one (Below.boxed hB.o) (by omega) _ 0)
   .go_ret;exact aV.mk (r:=6) (bad (by decide) fun h=>hr.f (h.all k _ au HX.o).1.two) (Below.one (Below.boxed hB.o) (by omega) _ 0)
   .rename_i xU;go_ret;exact aV.mk (r:=7) (bad (by decide) fun h=>absurd (h.all k _ au HX.o).1.le (by simp only;omega)) (Below.one (Below.boxed hB.o) (by omega) _ 0)
   rename_i ry hle;have HK:Hid (pr b.parts.length (xa,xb)):=⟨ry.t,hr.t,hle⟩
   have HL:=hid au;clear hr ry hle;go_loopw [5] (fun i w2=>∃m:Nat,m<=k/\Hid (gi b.apart (xa,xb) m)/\i=.int .i64 m/\∃n,w2=(wr.alloc (.cells #[.int .i64 xa,.int .i64 xb] 125)).drewN n) (fun i _=>k-(intOf i).toNat)
   case atStart=>exact⟨0,Nat.zero_le _,.zero _ _,rfl,0,rfl⟩
   case round=>
    obtain⟨m,hm2,hM,rfl,n0,rfl⟩:=hrel;by_cases ia:m<k
    .obtain⟨b',⟨ya,yb⟩,Iv,hy,z0,z1⟩:=H3.o.1.elem H3.o.2 (show m<b.apart.length by have:=HL.o;omega);cases Iv;have q0:=((z0.later (Kp.boxed hB.o)).later (Kp.alloc wr (.cells #[.int .i64 xa,.int .i64 xb] 125))).2;have q1:=((z1.later (Kp.boxed hB.o)).later (Kp.alloc wr (.cells #[.int .i64 xa,.int .i64 xb] 125))).2;simp only[<-Nat.add_assoc]at q0 q1;have HY:=hid hy;have UT:(m:Int)<(k:Int):=by omega
     have F6:(m:Int)<(b.apart.length:Int):=by omega
     clear hy z0 z1;have hB1:=Below.one (Below.boxed hB.o) (by omega) (.cells #[.int .i64 xa,.int .i64 xb] 125);have db:=hid hB1;clear hB1;by_cases e1:ya=xa
     .by_cases e2:yb=xb
      .subst e1 e2;go_wp2
       go_quiet (fail)
       go_wp2
       go_ret;exact aV.mk (r:=5) (bad (by decide) fun h=>(h.all k _ HL.o HX.o).2 m _ ia HY.o rfl) (Below.drewN (db.o _) _)
      .subst e1;have bu:Hid ((ya,yb)≠(ya,xb)):=(fun h=>e2 (by cases h;rfl):(ya,yb)≠(ya,xb))
       go_wp2
       go_quiet (fail)
       go_wp2
       go_round
       case rel=>exact⟨m+1,by omega,hM.o.succ HY.o bu.o,by go_num,_,rfl⟩
       case measure=>simp[intOf];omega
     .have bu:Hid ((ya,yb)≠(xa,xb)):=(fun h=>e1 (by cases h;rfl):(ya,yb)≠(xa,xb))
      go_wp2
      go_quiet (fail)
      go_wp2
      go_round
      case rel=>exact⟨m+1,by omega,hM.o.succ HY.o bu.o,by go_num,_,rfl⟩
      case measure=>simp[intOf];omega
    .have HM:Hid (gi b.apart (xa,xb) k):=(by have e:m=k:=by omega
                                             subst e;exact hM.o)
     go_wp2
     go_round
     case rel=>exact⟨k+1,by omega,hN.o.succ HX.o HK.o HM.o,by go_num,Below.one hB.o (by omega) _ _⟩
     case measure=>simp[intOf];omega
  .go_wp2
   go_ret;have e:k=b.apart.length:=by omega
   subst e;exact aV.mk (r:=0) ⟨fun _=>⟨by omega,hN.o⟩,fun _=>rfl⟩ (Below.boxed hB.o)
def wC (x:Int×Int) (p q:Int):Prop:=x.1=p/\x.2=q\/x.1=q/\x.2=p
def Apart (l:List (Int×Int)) (p q:Int):Prop:=∃x∈l,wC x p q
def qa (l:List (Int×Int)) (p q:Int) (k:Nat):Prop:=∀j x,j<k->l[j]?=some x->¬wC x p q
theorem qa.zero (l:List (Int×Int)) (p q:Int):qa l p q 0:=fun j y h=>by omega
theorem qa.succ {l:List (Int×Int)} (h:qa l p q k) (hy:l[k]?=some x) (bu:¬wC x p q):qa l p q (k+1):=fun j z hj hz=>by
 by_cases e:j=k
 .subst e;rw[hy]at hz;cases hz;exact bu
 .exact h j z (by omega) hz
theorem qa.all {l:List (Int×Int)} (h:qa l p q l.length):¬Apart l p q:=fun⟨x,hm,hx⟩=>by
 obtain⟨j,hj,rfl⟩:=List.getElem_of_mem hm;exact h j _ hj (List.getElem?_eq_getElem hj) hx
theorem qb (w:World) (v:Value) (b:an) (p q:Int) (hb:ap w v b):
 Calls ZP 63 #[v,.int .i64 p,.int .i64 q] w (cn w fun r=>Tr r (Apart b.apart p q)):=by
 obtain⟨v2,v3,v4,rfl,h2,⟨a3,c3,h3,f3⟩,h4⟩:=hb;have H3:Hid (bA w v3 b.apart.length a3 c3/\_):=⟨h3,f3⟩
 obtain⟨rfl,l3,m3,n3,r3⟩:=h3;obtain⟨a2,c2,⟨rfl,_,_,_,_⟩,_⟩:=h2;obtain⟨a4,c4,⟨rfl,_,_,_,_⟩,_⟩:=h4;unfold maxLen at m3;clear r3 f3 n3;go_enter ZF63,Tryz.ntmps63
 go_wp2
 go_loopw [7] (fun i w1=>∃k:Nat,k<=b.apart.length/\Hid (qa b.apart p q k)/\i=.int .i64 k/\Hid (Below (w.heap.size+1) (w.alloc (.cells #[.int .i64 b.ah,.int .i64 b.places,.slice a2 b.parts.length c2,.slice a3 b.apart.length c3,.slice a4 b.aa.length c4] 26)) w1)) (fun i _=>b.apart.length-(intOf i).toNat)
 case atStart=>exact⟨0,Nat.zero_le _,.zero _ _ _,rfl,Below.refl _ _⟩
 case round=>
  obtain⟨k,hk,hN,rfl,hB⟩:=hrel;have g3:=boxed hB.o 3;simp only[List.getElem?_toArray,List.getElem?_cons_succ,List.getElem?_cons_zero]at g3;by_cases au:k<b.apart.length
  .obtain⟨⟨blk,off,sp⟩,⟨xa,xb⟩,rfl,hx,x0,x1⟩:=H3.o.1.elem H3.o.2 au;obtain rfl:sp=none:=x0.1;have HX:=hid hx;have y0:=(x0.later (Kp.boxed hB.o)).2;have y1:=(x1.later (Kp.boxed hB.o)).2;simp only[<-Nat.add_assoc]at y0 y1;have kM:w.heap.size+1<=wr.heap.size:=by have:=hB.o.size;simp at this;omega
   have HZ:=hid kM;clear x0 x1 hx;by_cases e:wC (xa,xb) p q
   .have hm:=List.mem_of_getElem? HX.o;rcases(show xa=p/\xb=q\/xa=q/\xb=p from e)with⟨rfl,rfl⟩|⟨rfl,rfl⟩
    .go_wp2
     go_ret;exact cn.mk (.yes ⟨_,hm,.inl ⟨rfl,rfl⟩⟩) (Below.one (Below.boxed hB.o) (by omega) _ 0)
    .by_cases e3:xa=xb
     .subst e3;go_wp2
      go_ret;exact cn.mk (.yes ⟨_,hm,.inl ⟨rfl,rfl⟩⟩) (Below.one (Below.boxed hB.o) (by omega) _ 0)
     .go_wp2
      go_ret;exact cn.mk (.yes ⟨_,hm,.inr ⟨rfl,rfl⟩⟩) (Below.one (Below.boxed hB.o) (by omega) _ 0)
   .have HE:=hid e;have e1:¬(xa=p/\xb=q):=fun h=>e (.inl h);have e2:¬(xa=q/\xb=p):=fun h=>e (.inr h);clear e;by_cases a1:xa=p
    .subst a1;have a2:¬xb=q:=fun h=>e1 ⟨rfl,h⟩;clear e1;by_cases a3:xa=q
     .subst a3;clear e2;go_wp2
      go_round
      case rel=>exact⟨k+1,by omega,hN.o.succ HX.o HE.o,by go_num,Below.one hB.o HZ.o _ 0⟩
      case measure=>simp[intOf];omega
     .clear e2;go_wp2
      go_round
      case rel=>exact⟨k+1,by omega,hN.o.succ HX.o HE.o,by go_num,Below.one hB.o HZ.o _ 0⟩
      case measure=>simp[intOf];omega
    .clear e1;by_cases a3:xa=q
     .subst a3;have a4:¬xb=p:=fun h=>e2 ⟨rfl,h⟩;clear e2;go_wp2
      go_round
      case rel=>exact⟨k+1,by omega,hN.o.succ HX.o HE.o,by go_num,Below.one hB.o HZ.o _ 0⟩
      case measure=>simp[intOf];omega
     .clear e2;go_wp2
      go_round
      case rel=>exact⟨k+1,by omega,hN.o.succ HX.o HE.o,by go_num,Below.one hB.o HZ.o _ 0⟩
      case measure=>simp[intOf];omega
  .go_wp2
   go_ret;have e:k=b.apart.length:=by omega
   subst e;exact cn.mk (.no hN.o.all) (Below.boxed hB.o)
def aj (w0:World):Type:={w:World//Below w0.heap.size w0 w}
instance (w0 : World) : Nonempty (aj w0) := ⟨⟨w0, Below.refl _ _⟩⟩
theorem aj.cell (X:aj w0) {a:Addr} {v:Value} (h:w0.cell? a=some v):X.1.cell? a=some v:=by
 have hk:a.block<w0.heap.size:=by
  unfold World.cell? at h;split at h
  .rename_i hx;exact(Array.getElem?_eq_some_iff.1 hx).1
  .cases h
 exact(World.cell?_of_block (X.2.block _ hk)).trans h
theorem aj.kp (X:aj w0):Kp w0 X.1:=Kp.of X.2
theorem aj.on (X:aj w0) (h:Below X.1.heap.size X.1 w):∃Y:aj w0,w=Y.1:=⟨⟨w,X.2.trans (h.mono X.2.size)⟩,rfl⟩
theorem aj.same (X:aj w0) (h:w=X.1):∃Y:aj w0,w=Y.1:=⟨X,h⟩
theorem am {P:Program} {id:Nat} {Q:Exit->Act->World->Prop} {a:Act} {l:List Oper} (hm:P.follows .mixedOrders=true) (hB:Region.lexB .any l.toArray=true)
 (h:wpQuiet P l.toArray (fun w'=>∃X:aj w,w'=X.1) (fun a'=>∀w',(∃X:aj w,w'=X.1)->Q .normal a' w') l a):(Code.region id l.toArray true).wp P Q a w:=
 wp_region_quiet (C:=fun w'=>∃X:aj w,w'=X.1) hm hB ⟨⟨_,Below.drewN (Below.refl _ w) 1⟩,rfl⟩ (by simpa using h)
def kI (l:List Int) (n:Int) (k:Nat):Prop:=∀(j:Nat) (x:Int),j<k->l[j]?=some x->0<=x/\x<=n-1
theorem kI.zero (l:List Int) (n:Int):kI l n 0:=fun j y h=>by omega
theorem kI.succ {l:List Int} {x:Int} (h:kI l n k) (hy:l[k]?=some x) (bu:0<=x/\x<=n-1):kI l n (k+1):=fun j z hj hz=>by
 by_cases e:j=k
 .subst e;rw[hy]at hz;cases hz;exact bu
 .exact h j z (by omega) hz
structure Dt (b:an) (l:List Int) (j:Nat) (x:Int):Prop where
 fits:∃P,b.parts[x.toNat]?=some P/\(j:Int)∈P.fits
 Rj:0<j->∀y,l[j-1]?=some y->¬Apart b.apart y x
def kB (b:an) (l:List Int) (k:Nat):Prop:=∀j x,j<k->l[j]?=some x->Dt b l j x
theorem kB.zero (b:an) (l:List Int):kB b l 0:=fun j y h=>by omega
theorem kB.succ {b:an} {l:List Int} {x:Int} (h:kB b l k) (hy:l[k]?=some x) (bu:Dt b l k x):kB b l (k+1):=fun j z hj hz=>by
 by_cases e:j=k
 .subst e;rw[hy]at hz;cases hz;exact bu
 .exact h j z (by omega) hz
structure cN (b:an) (l:List Int):Prop where
 len:(l.length:Int)=b.places
 range:kI l b.parts.length l.length
 fit:kB b l l.length
open Classical in
noncomputable def bI (b:an) (l:List Int):Int:=
 if(l.length:Int)=b.places then if kI l b.parts.length l.length then if kB b l l.length then 0 else 3 else 6 else 2
section
variable {b:an} {l:List Int}
theorem ke (h:¬(l.length:Int)=b.places):2=bI b l:=by unfold bI;rw[if_neg h]
theorem lG (h:(l.length:Int)=b.places) (h2:¬kI l b.parts.length l.length):6=bI b l:=by unfold bI;rw[if_pos h,if_neg h2]
theorem fE (h:(l.length:Int)=b.places) (h2:kI l b.parts.length l.length) (h3:¬kB b l l.length):3=bI b l:=by unfold bI;rw[if_pos h,if_pos h2,if_neg h3]
theorem jb (h:cN b l):0=bI b l:=by unfold bI;rw[if_pos h.len,if_pos h.range,if_pos h.fit]
theorem cX:bI b l=0↔cN b l:=by
 refine⟨fun h=>?_,fun h=>(jb h).symm⟩;by_cases h1:(l.length:Int)=b.places
 .by_cases h2:kI l b.parts.length l.length
  .by_cases h3:kB b l l.length
   .exact⟨h1,h2,h3⟩
   .rw[<-fE h1 h2 h3]at h;cases h
  .rw[<-lG h1 h2]at h;cases h
 .rw[<-ke h1]at h;cases h
end
structure pu (w:World) (g:Nat) (v0 v1 v2 v3 v4:Value):Prop where
 c0:w.cell? ⟨g,0,none⟩=some v0
 c1:w.cell? ⟨g,1,none⟩=some v1
 c2:w.cell? ⟨g,2,none⟩=some v2
 c3:w.cell? ⟨g,3,none⟩=some v3
 c4:w.cell? ⟨g,4,none⟩=some v4
theorem pu.of {w1:World} {v0 v1 v2 v3 v4:Value} (h:Below (w.heap.size+1) (w.alloc (.cells #[v0,v1,v2,v3,v4] 26)) w1):pu w1 w.heap.size v0 v1 v2 v3 v4:=
 ⟨boxed h 0,boxed h 1,boxed h 2,boxed h 3,boxed h 4⟩
theorem jK (w:World) (v vl:Value) (b:an) (l:List Int) (hb:ap w v b) (hl:ao w vl l) (hp:1<=b.parts.length/\b.parts.length<=5):
 Calls ZP 18 #[v,vl] w (aV w fun s=>s=bI b l):=by
 have HB:=hid hb;obtain⟨v2,v3,v4,rfl,⟨a2,c2,h2,f2⟩,⟨a3,c3,⟨rfl,_,_,_,_⟩,_⟩,⟨a4,c4,⟨rfl,_,_,_,_⟩,_⟩⟩:=hb;obtain⟨al,cl,EQ,fl⟩:=hl;have H2:Hid (bA w v2 b.parts.length a2 c2/\_):=⟨h2,f2⟩
 have HL:Hid (bA w vl l.length al cl/\_):=⟨EQ,fl⟩
 obtain⟨rfl,l2,m2,n2,r2⟩:=h2;obtain⟨rfl,ll,ml,nl,rl⟩:=EQ;unfold maxLen at m2 ml;clear r2 f2 n2 rl fl nl;have kK:wrap64 ((b.parts.length:Int)-1)=b.parts.length-1:=by unfold wrap64;omega
 go_enter ZF18,Tryz.ntmps18
 by_cases hlen:(l.length:Int)=b.places
 case neg=>
  go_wp2
  go_ret;exact aV.mk (r:=2) (ke hlen) ((Below.refl _ _).alloc (Nat.le_refl _) _)
 have sj:=hid hlen;have bu:((l.length:Int)!=b.places)=false:=by simp[hlen]
 clear hlen;go_wp2
 go_loopw [5] (fun i w1=>∃k:Nat,k<=l.length/\Hid (kI l b.parts.length k)/\i=.int .i64 k/\Hid (Below (w.heap.size+1) (w.alloc (.cells #[.int .i64 b.ah,.int .i64 b.places,.slice a2 b.parts.length c2,.slice a3 b.apart.length c3,.slice a4 b.aa.length c4] 26)) w1)) (fun i _=>l.length-(intOf i).toNat)
 case atStart=>exact⟨0,Nat.zero_le _,.zero _ _,rfl,Below.refl _ _⟩
 case round=>
  obtain⟨k,hk,hN,rfl,hB⟩:=hrel;obtain⟨g0,g1,g2,g3,g4⟩:=pu.of hB.o;by_cases au:k<l.length
  .obtain⟨⟨blk,off,sp⟩,x,rfl,hx,x0⟩:=HL.o.1.elem HL.o.2 au;obtain rfl:sp=none:=x0.1;have HX:=hid hx;have y0:=(x0.later (Kp.boxed hB.o)).2;simp only at y0;have iO:(k:Int)<(l.length:Int):=by omega
   clear x0 hx;by_cases e:0<=x/\x<=(b.parts.length:Int)-1
   .have HE:=hid e;have hd:(decide (0<=x)&&decide (x<=(b.parts.length:Int)-1))=true:=by simpa using e
    clear e;go_wp2
    go_quiet ((go_at_call 20;exact(lF _ _ _ _).mono fun e w' h=>⟨h.1.trans (by rw[hd]),_,h.2⟩))
    go_wp2
    go_round
    case rel=>exact⟨k+1,by omega,hN.o.succ HX.o HE.o,by go_num,Below.drewN hB.o _⟩
    case measure=>simp[intOf];omega
   .have HE:=hid e
    have hd:(decide (0<=x)&&decide (x<=(b.parts.length:Int)-1))=false:=by
     cases hh:(decide (0<=x)&&decide (x<=(b.parts.length:Int)-1))with
     |false=>rfl
     |true=>exact absurd (by simpa using hh) e
    clear e;go_wp2
    go_quiet ((go_at_call 20;exact(lF _ _ _ _).mono fun e w' h=>⟨h.1.trans (by rw[hd]),_,h.2⟩))
    go_wp2
    go_ret;exact aV.mk (r:=6) (lG sj.o fun h=>HE.o (h k x au HX.o)) (Below.drewN (Below.boxed hB.o) _)
  .have HN:Hid (kI l b.parts.length l.length):=(by have e:k=l.length:=by omega
                                                   subst e;exact hN.o)
   clear hN;go_wp2
   go_loopw [6] (fun i w1=>∃k:Nat,k<=l.length/\Hid (kB b l k)/\i=.int .i64 k/\Hid (Below (w.heap.size+1) (w.alloc (.cells #[.int .i64 b.ah,.int .i64 b.places,.slice a2 b.parts.length c2,.slice a3 b.apart.length c3,.slice a4 b.aa.length c4] 26)) w1)) (fun i _=>l.length-(intOf i).toNat)
   case atStart=>exact⟨0,Nat.zero_le _,.zero _ _,rfl,hB.o⟩
   case round=>
    clear g0 g1 g2 g3 g4 hB au hk;obtain⟨k,hk,hN,rfl,hB⟩:=hrel;have gg:=pu.of hB.o;by_cases au:k<l.length
    .obtain⟨⟨blk,off,sp⟩,x,rfl,hx,x0⟩:=HL.o.1.elem HL.o.2 au;obtain rfl:sp=none:=x0.1;obtain⟨xn,rfl⟩:=Int.eq_ofNat_of_zero_le (HN.o k x au hx).1;have hxr:=(HN.o k xn au hx).2;have xh:xn<b.parts.length:=by omega
     obtain⟨⟨pb,po,ps⟩,P,rfl,hP,_,_,_,_,_,vf,p5,JV⟩:=H2.o.1.elem H2.o.2 xh;obtain rfl:ps=none:=p5.1;have hf:=JV;obtain⟨af,cf,⟨rfl,_,_,_,_⟩,_⟩:=JV;have HX:Hid (l[k]?=some (xn:Int)/\b.parts[xn]?=some P):=⟨hx,hP⟩
     have G0:=fun X:aj wr=>X.cell gg.c0;have G1:=fun X:aj wr=>X.cell gg.c1;have G2:=fun X:aj wr=>X.cell gg.c2;have G3:=fun X:aj wr=>X.cell gg.c3;have G4:=fun X:aj wr=>X.cell gg.c4;have Y0:=fun X:aj wr=>X.cell (x0.later (Kp.boxed hB.o)).2;have Y5:=fun X:aj wr=>X.cell (p5.later (Kp.boxed hB.o)).2;simp only[<-Nat.add_assoc]at Y0 Y5;have iO:(k:Int)<(l.length:Int):=by omega
     have hx2:(xn:Int)<(b.parts.length:Int):=by omega
     have hz:Hid (w.heap.size+1<=wr.heap.size):=by have:=hB.o.size;simp at this;exact(by omega:w.heap.size+1<=wr.heap.size)
     clear x0 hx hP p5 gg
     have qB:∀X:aj wr,Calls ZP 17 #[.slice af P.fits.length cf,.int .i64 k] X.1 (fun e fT=>e=.returned (.bool (decide ((k:Int)∈P.fits)))/\∃Y:aj wr,fT=Y.1):=fun X=>
      (qS _ _ _ _ ((hf.later (Kp.boxed hB.o)).later X.kp)).mono fun e w' h=>⟨h.1,X.same h.2⟩
     by_cases m6:(k:Int)∈P.fits
     .have HF:Hid (∃P,b.parts[((xn:Int)).toNat]?=some P/\(k:Int)∈P.fits):=⟨P,by simpa using HX.o.2,m6⟩
      rw[decide_eq_true m6]at qB;clear m6;by_cases nt:0<k
      .obtain⟨b',z,Iv,NL,z0⟩:=HL.o.1.elem HL.o.2 (show k-1<l.length by omega);cases Iv;have Z0:=fun X:aj wr=>X.cell (z0.later (Kp.boxed hB.o)).2;simp only at Z0;have HZ:Hid (l[k-1]?=some z):=NL;have kF:wrap64 ((k:Int)-1)=((k-1:Nat):Int):=by unfold wrap64;omega
       have iN:(0:Int)<(k:Int):=by omega
       have kA:((k-1:Nat):Int)<(l.length:Int):=by omega
       clear z0 NL
       have m7:∀X:aj wr,Calls ZP 63 #[.agg #[.int .i64 b.ah,.int .i64 b.places,.slice (some ⟨pb,po,none⟩) b.parts.length c2,.slice a3 b.apart.length c3,.slice a4 b.aa.length c4],.int .i64 z,.int .i64 xn] X.1 (fun e fT=>(∃r,e=.returned (.bool r)/\Tr r (Apart b.apart z xn))/\∃Y:aj wr,fT=Y.1):=fun X=>
        (qb _ _ _ _ _ ((HB.o.later (Kp.boxed hB.o)).later X.kp)).mono fun e w' h=>⟨h.1,X.on h.2⟩
       by_cases qC:Apart b.apart z xn
       .have HA:=hid qC
        have m7:∀X:aj wr,Calls ZP 63 #[.agg #[.int .i64 b.ah,.int .i64 b.places,.slice (some ⟨pb,po,none⟩) b.parts.length c2,.slice a3 b.apart.length c3,.slice a4 b.aa.length c4],.int .i64 z,.int .i64 xn] X.1 (fun e fT=>e=.returned (.bool true)/\∃Y:aj wr,fT=Y.1):=fun X=>
         (m7 X).mono fun e w' ⟨⟨r,h1,h2⟩,h3⟩=>⟨by rw[h1,h2.2 qC],h3⟩
        clear qC;go_wp2
        refine am (by kernel_rfl) (by kernel_rfl) ?_;repeat(go_big_quiet_step (first|(go_at_call 17;exact qB _)|(go_at_call 63;exact m7 _)))
        refine wpQuiet_nil ?_;rintro _ ⟨X,rfl⟩;go_wp2
        go_ret;exact aV.mk (r:=3) (fE sj.o HN.o fun h=>(h k _ au HX.o.1).Rj nt z HZ.o HA.o) ((Below.boxed hB.o).trans (X.2.mono (Nat.le_trans (Nat.le_succ _) hz.o)))
       .have HA:Hid (Dt b l k xn):=⟨HF.o,fun _ y hy=>by rw[HZ.o]at hy;cases hy;exact qC⟩
        have m7:∀X:aj wr,Calls ZP 63 #[.agg #[.int .i64 b.ah,.int .i64 b.places,.slice (some ⟨pb,po,none⟩) b.parts.length c2,.slice a3 b.apart.length c3,.slice a4 b.aa.length c4],.int .i64 z,.int .i64 xn] X.1 (fun e fT=>e=.returned (.bool false)/\∃Y:aj wr,fT=Y.1):=fun X=>
         (m7 X).mono fun e w' ⟨⟨r,h1,h2⟩,h3⟩=>⟨by cases r with
           |false=>exact h1
           |true=>exact absurd h2.t qC,h3⟩
        clear qC;go_wp2
        refine am (by kernel_rfl) (by kernel_rfl) ?_;repeat(go_big_quiet_step (first|(go_at_call 17;exact qB _)|(go_at_call 63;exact m7 _)))
        refine wpQuiet_nil ?_;rintro _ ⟨X,rfl⟩;go_wp2
        go_round
        case rel=>exact⟨k+1,by omega,hN.o.succ HX.o.1 HA.o,by go_num,hB.o.trans (X.2.mono hz.o)⟩
        case measure=>simp[intOf];omega
      .have HA:Hid (Dt b l k xn):=⟨HF.o,fun h=>absurd h nt⟩
       have iN:¬(0:Int)<(k:Int):=by omega
       go_wp2
       refine am (by kernel_rfl) (by kernel_rfl) ?_;repeat(go_big_quiet_step (first|(go_at_call 17;exact qB _)))
       refine wpQuiet_nil ?_;rintro _ ⟨X,rfl⟩;go_wp2
       go_round
       case rel=>exact⟨k+1,by omega,hN.o.succ HX.o.1 HA.o,by go_num,hB.o.trans (X.2.mono hz.o)⟩
       case measure=>simp[intOf];omega
     .have HF:=hid m6;rw[decide_eq_false m6]at qB;clear m6;go_wp2
      refine am (by kernel_rfl) (by kernel_rfl) ?_;repeat(go_big_quiet_step (first|(go_at_call 17;exact qB _)))
      refine wpQuiet_nil ?_;rintro _ ⟨X,rfl⟩;go_wp2
      go_ret
      exact aV.mk (r:=3) (fE sj.o HN.o fun h=>by
       obtain⟨P',RP,hm⟩:=(h k _ au HX.o.1).fits;simp only[Int.toNat_natCast]at RP;rw[HX.o.2]at RP;cases RP;exact HF.o hm) ((Below.boxed hB.o).trans (X.2.mono (Nat.le_trans (Nat.le_succ _) hz.o)))
    .go_wp2
     go_ret;have e:k=l.length:=by omega
     subst e;exact aV.mk (r:=0) (jb ⟨sj.o,HN.o,hN.o⟩) (Below.boxed hB.o)
end Go.Proofs.Cz
namespace Go.Proofs.Cz
open Go.RowKit
structure oq (b:an) (t:dq):Prop where
 IA:cN b t.parts
 LP:0<=t.lo/\t.lo<=t.hi/\t.hi<=99
def fF (b:an) (k:Nat):Prop:=∀j t,j<k->b.aa[j]?=some t->oq b t
theorem fF.zero (b:an):fF b 0:=fun j y h=>by omega
theorem fF.succ {b:an} {x:dq} {k:Nat} (h:fF b k) (hy:b.aa[k]?=some x) (bu:oq b x):fF b (k+1):=fun j z hj hz=>by
 by_cases e:j=k
 .subst e;rw[hy]at hz;cases hz;exact bu
 .exact h j z (by omega) hz
structure Valid (b:an):Prop where
 ah:1<=b.ah/\b.ah<=99
 places:1<=b.places/\b.places<=4
 parts:qT b
 iE:eS b
 many:b.aa.length<=4
 aa:fF b b.aa.length
end Go.Proofs.Cz
namespace Go.RowKit
theorem Below.jc {w w1:World} {o:Obj} (h:Below (w.alloc o).heap.size (w.alloc o) w1):Below (w.heap.size+1) (w.alloc o) w1:=by simpa using h
end Go.RowKit
namespace Go.Proofs.Cz
open Go.RowKit
end Go.Proofs.Cz
namespace Go.RowKit
theorem Below.jL {w w1 w2:World} {o:Obj} (h:Below (w.alloc o).heap.size (w.alloc o) w1) (k:Below w1.heap.size w1 w2):Below (w.heap.size+1) (w.alloc o) w2:=Below.jc (h.trans (k.mono h.size))
end Go.RowKit
namespace Go.Proofs.Cz
open Go.RowKit
theorem wD (w:World) (v:Value) (b:an) (hb:ap w v b) (hs:lE b):
 Calls ZP 32 #[v] w (aV w fun s=>s=0↔Valid b):=by
 have HB:=hid hb;obtain⟨v2,v3,v4,rfl,⟨a2,c2,⟨rfl,_,_,_,_⟩,_⟩,⟨a3,c3,⟨rfl,_,_,_,_⟩,_⟩,⟨a4,c4,h4,f4⟩⟩:=hb;have H4:Hid (bA w v4 b.aa.length a4 c4/\_):=⟨h4,f4⟩
 obtain⟨rfl,l4,m4,n4,r4⟩:=h4;unfold maxLen at m4;clear r4 f4 n4;go_enter ZF32,Tryz.ntmps32
 have db:=HB.o.later (Kp.alloc w (.cells #[.int .i64 b.ah,.int .i64 b.places,.slice a2 b.parts.length c2,.slice a3 b.apart.length c3,.slice a4 b.aa.length c4] 26))
 go_wp2_with(first
  |(go_at_call 20;refine(LN _ _ _ _).mono ?_;rintro e w' ⟨r,rfl,hr,rfl⟩;cases r)
  |(go_at_call 79;refine(sg _ _ _ db hs hr.t).mono ?_;rintro e w1 ⟨⟨r,rfl,Qf⟩,np⟩;by_cases UX:r=0;obtain⟨g0,g1,g2,g3,g4⟩:=pu.of np.jc)
  |(go_at_call 80;refine(si _ _ _ (HB.o.later (Kp.boxed np.jc)) (Qf.1 UX).many).mono ?_;rintro e w2 ⟨⟨r2,rfl,NF⟩,zf⟩;by_cases RQ:r2=0;obtain⟨q0,q1,q2,q3,q4⟩:=pu.of (np.jL zf)))
 .go_ret;exact aV.mk (r:=1) (bad (by decide) fun h=>hr.f h.ah) ((Below.refl _ _).alloc (Nat.le_refl _) _)
 .go_ret;exact aV.mk (r:=1) (bad (by decide) fun h=>hr.f h.places) ((Below.refl _ _).alloc (Nat.le_refl _) _)
 .rename_i Xb;go_ret;exact aV.mk (r:=2) (bad (by decide) fun h=>by have:=h.many;omega) (Below.boxed (np.jL zf))
 .have HV:Hid ((1<=b.ah/\b.ah<=99)/\(1<=b.places/\b.places<=4)/\qT b/\eS b/\b.aa.length<=4):=by
   exact⟨Tr.t (by assumption),hr.t,Qf.1 UX,NF.1 RQ,by omega⟩
  have JW:Hid (Below (w.heap.size+1) (w.alloc (.cells #[.int .i64 b.ah,.int .i64 b.places,.slice a2 b.parts.length c2,.slice a3 b.apart.length c3,.slice a4 b.aa.length c4] 26)) w2):=np.jL zf;clear hr Qf NF np zf UX RQ q0 q1 q2 q3 q4 g0 g1 g2 g3 g4;go_loopw [5] (fun i w1=>∃k:Nat,k<=b.aa.length/\Hid (fF b k)/\i=.int .i64 k/\Hid (Below (w.heap.size+1) (w.alloc (.cells #[.int .i64 b.ah,.int .i64 b.places,.slice a2 b.parts.length c2,.slice a3 b.apart.length c3,.slice a4 b.aa.length c4] 26)) w1)) (fun i _=>b.aa.length-(intOf i).toNat)
  case atStart=>exact⟨0,Nat.zero_le _,.zero _,rfl,JW⟩
  case round=>
   obtain⟨k,hk,hN,rfl,hB⟩:=hrel;have gg:=pu.of hB.o;by_cases au:k<b.aa.length
   .obtain⟨⟨blk,off,sp⟩,t,rfl,hx,⟨vf,x0,hf⟩,x1,x2⟩:=H4.o.1.elem H4.o.2 au;obtain rfl:sp=none:=x0.1;have CJ:=hf;obtain⟨af,cf,⟨rfl,_,_,_,_⟩,_⟩:=hf;have HX:=hid hx;obtain⟨s0,s1,s2,s3,s4⟩:=gg;have G0:=fun X:aj wr=>X.cell s0;have G1:=fun X:aj wr=>X.cell s1;have G2:=fun X:aj wr=>X.cell s2;have G3:=fun X:aj wr=>X.cell s3;have G4:=fun X:aj wr=>X.cell s4;have Y0:=fun X:aj wr=>X.cell (x0.later (Kp.boxed hB.o)).2;have Y1:=fun X:aj wr=>X.cell (x1.later (Kp.boxed hB.o)).2;have Y2:=fun X:aj wr=>X.cell (x2.later (Kp.boxed hB.o)).2;simp only[<-Nat.add_assoc]at Y0 Y1 Y2;have iO:(k:Int)<(b.aa.length:Int):=by omega
    have hz:Hid (w.heap.size+1<=wr.heap.size):=by have:=hB.o.size;simp at this;exact(by omega:w.heap.size+1<=wr.heap.size)
    have NM:∀X:aj wr,Calls ZP 18 #[.agg #[.int .i64 b.ah,.int .i64 b.places,.slice a2 b.parts.length c2,.slice a3 b.apart.length c3,.slice (some ⟨blk,off,none⟩) b.aa.length c4],.slice af t.parts.length cf] X.1 (fun e fT=>e=.returned (.int .i64 (bI b t.parts))/\∃Y:aj wr,fT=Y.1):=fun X=>
     (jK _ _ _ _ _ ((HB.o.later (Kp.boxed hB.o)).later X.kp) ((CJ.later (Kp.boxed hB.o)).later X.kp) HV.o.2.2.1.many).mono fun e w' ⟨⟨r,h1,h2⟩,h3⟩=>⟨by rw[h1,h2],X.on h3⟩
    clear CJ x0 x1 x2 hx;by_cases Qg:bI b t.parts=0
    .have HM:Hid (cN b t.parts):=cX.1 Qg;go_wp2
     refine am (by kernel_rfl) (by kernel_rfl) ?_;repeat(go_big_quiet_step (first|(go_at_call 18;exact NM _)))
     refine wpQuiet_nil ?_;rintro _ ⟨X,rfl⟩;go_wp2_with(go_at_call 81;refine(se _ _ _ _ _).mono ?_;rintro e w' ⟨r,rfl,hr,rfl⟩;cases r)
     .go_ret;exact aV.mk (r:=1) (bad (by decide) fun h=>hr.f (h.aa k _ au HX.o).LP) (Below.alloc ((Below.boxed hB.o).trans (X.2.mono (Nat.le_trans (Nat.le_succ _) hz.o))) (Nat.le_trans (Nat.le_trans (Nat.le_succ _) hz.o) X.2.size) _)
     .have HT:Hid (oq b t):=⟨HM.o,hr.t⟩
      clear hr;go_round
      case rel=>exact⟨k+1,by omega,hN.o.succ HX.o HT.o,by go_num,Below.alloc (hB.o.trans (X.2.mono hz.o)) (Nat.le_trans hz.o X.2.size) _⟩
      case measure=>simp[intOf];omega
    .have HM:Hid (¬cN b t.parts):=fun h=>Qg (cX.2 h);go_wp2
     refine am (by kernel_rfl) (by kernel_rfl) ?_;repeat(go_big_quiet_step (first|(go_at_call 18;exact NM _)))
     refine wpQuiet_nil ?_;rintro _ ⟨X,rfl⟩;go_wp2
     go_ret;exact aV.mk (bad Qg fun h=>HM.o (h.aa k _ au HX.o).IA) ((Below.boxed hB.o).trans (X.2.mono (Nat.le_trans (Nat.le_succ _) hz.o)))
   .have HN:Hid (fF b b.aa.length):=(by have e:k=b.aa.length:=by omega
                                        subst e;exact hN.o)
    obtain⟨s0,s1,s2,s3,s4⟩:=gg;go_wp2
    go_ret;exact aV.mk (r:=0) ⟨fun _=>⟨HV.o.1,HV.o.2.1,HV.o.2.2.1,HV.o.2.2.2.1,HV.o.2.2.2.2,HN.o⟩,fun _=>rfl⟩ (Below.boxed hB.o)
 .go_ret;exact aV.mk (bad RQ fun h=>RQ (NF.2 h.iE)) (Below.boxed (np.jL zf))
 .go_ret;exact aV.mk (bad UX fun h=>UX (Qf.2 h.parts)) (Below.boxed np.jc)
end Go.Proofs.Cz
namespace Go.Proofs.Cz
open Go.RowKit
variable {b:an} {t:dq}
open Classical in
noncomputable def de (n:Int) (l:List (Int×Int)) (k:Nat):Int:=match l[k]? with
 |none=>0
 |some x=>if(0<=x.1/\x.1<=n-1)/\0<=x.2/\x.2<=n-1 then(if x.1<=x.2 then(if∃i,i<k/\l[i]?=some x then 5 else 0)else 7)else 6
noncomputable def bT (n:Int) (l:List (Int×Int)):Int:=if l.length<=5 then scan (de n l) l.length else 2
section
variable {n:Int} {l:List (Int × Int)} {k:Nat} {x:Int × Int}
theorem IB (hx:l[k]?=some x) (h:¬((0<=x.1/\x.1<=n-1)/\0<=x.2/\x.2<=n-1)):de n l k=6:=by unfold de;rw[hx];simp only;rw[if_neg h]
theorem Qh (hx:l[k]?=some x) (h:(0<=x.1/\x.1<=n-1)/\0<=x.2/\x.2<=n-1) (h2:¬x.1<=x.2):de n l k=7:=by unfold de;rw[hx];simp only;rw[if_pos h,if_neg h2]
theorem Qi (hx:l[k]?=some x) (h:pr n x) {i:Nat} (hi:i<k) (hy:l[i]?=some x):de n l k=5:=by unfold de;rw[hx];simp only;rw[if_pos ⟨h.one,h.two⟩,if_pos h.le,if_pos ⟨i,hi,hy⟩]
theorem IC (hx:l[k]?=some x) (h:pr n x) (h2:gi l x k):de n l k=0:=by unfold de;rw[hx];simp only;rw[if_pos ⟨h.one,h.two⟩,if_pos h.le,if_neg (fun⟨i,hi,hy⟩=>h2 i x hi hy rfl)]
theorem BH (hm:l.length<=5):bT n l=scan (de n l) l.length:=by unfold bT;rw[if_pos hm]
theorem m8:bT b.parts.length b.apart=0↔eS b:=by
 unfold bT;constructor
 .intro h;split at h
  .rename_i hm;refine⟨hm,fun j x hj hx=>?_⟩;have h1:=eB.1 h j hj;unfold de at h1;rw[hx]at h1;simp only at h1;split at h1
   .rename_i h2;split at h1
    .rename_i h3;split at h1
     .cases h1
     .rename_i h4;exact⟨⟨h2.1,h2.2,h3⟩,fun i y hi hy e=>h4 ⟨i,hi,by rw[<-e];exact hy⟩⟩
    .cases h1
   .cases h1
  .cases h
 .intro h;rw[if_pos h.many,eB];intro j hj;have hx:b.apart[j]?=some b.apart[j]:=List.getElem?_eq_getElem hj;have h1:=h.all j _ hj hx;exact IC hx h1.1 h1.2
end
theorem kg:bE b.places b.parts=0↔qT b:=by
 unfold bE;constructor
 .intro h;split at h
  .rename_i hm;refine⟨hm,fun j x hj hx=>?_⟩;have h1:=eB.1 h j hj;unfold cB at h1;rw[hx]at h1;simp only at h1;split at h1
   .rename_i h2;split at h1
    .cases h1
    .rename_i h3;split at h1
     .rename_i h4;exact⟨⟨h2,h4.1,h4.2.1,h4.2.2.1,h4.2.2.2,pZ.1 h1⟩,fun i y hi hy e=>h3 ⟨i,y,hi,hy,e⟩⟩
     .cases h1
   .cases h1
  .cases h
 .intro h;rw[if_pos h.many,eB];intro j hj;have hx:b.parts[j]?=some b.parts[j]:=List.getElem?_eq_getElem hj;have h1:=h.all j _ hj hx;rw[Iz hx h1.1.name h1.2 ⟨h1.1.cost,h1.1.fC,h1.1.time,h1.1.wide⟩];exact pZ.2 h1.1.US
noncomputable def df (b:an) (k:Nat):Int:=match b.aa[k]? with
 |none=>0
 |some t=>if bI b t.parts=0 then(if 0<=t.lo/\t.lo<=t.hi/\t.hi<=99 then 0 else 1)else bI b t.parts
noncomputable def cY (b:an):Int:=if b.aa.length<=4 then scan (df b) b.aa.length else 2
theorem Du {k:Nat} (hx:b.aa[k]?=some t) (h:oq b t):df b k=0:=by unfold df;rw[hx];simp only;rw[if_pos (cX.2 h.IA),if_pos h.LP]
theorem LQ {k:Nat} (hx:b.aa[k]?=some t) (h:cN b t.parts) (h2:¬(0<=t.lo/\t.lo<=t.hi/\t.hi<=99)):df b k=1:=by unfold df;rw[hx];simp only;rw[if_pos (cX.2 h),if_neg h2]
theorem LR {k:Nat} (hx:b.aa[k]?=some t) (h:bI b t.parts≠0):df b k=bI b t.parts:=by unfold df;rw[hx];simp only;rw[if_neg h]
theorem zg (hm:b.aa.length<=4):cY b=scan (df b) b.aa.length:=by unfold cY;rw[if_pos hm]
theorem qc:cY b=0↔b.aa.length<=4/\fF b b.aa.length:=by
 unfold cY;constructor
 .intro h;split at h
  .rename_i hm;refine⟨hm,fun j t hj ht=>?_⟩;have h1:=eB.1 h j hj;unfold df at h1;rw[ht]at h1;simp only at h1;split at h1
   .rename_i h2;split at h1
    .rename_i h3;exact⟨cX.1 h2,h3⟩
    .cases h1
   .rename_i h2;exact absurd h1 h2
  .cases h
 .rintro⟨hm,h⟩;rw[if_pos hm,eB];intro j hj;have hx:b.aa[j]?=some b.aa[j]:=List.getElem?_eq_getElem hj;exact Du hx (h j _ hj hx)
noncomputable def gm (b:an):Int:=
 if(1<=b.ah/\b.ah<=99)/\1<=b.places/\b.places<=4 then
  (if bE b.places b.parts=0 then(if bT b.parts.length b.apart=0 then cY b else bT b.parts.length b.apart)else bE b.places b.parts)
 else 1
theorem E8:gm b=0↔Valid b:=by
 unfold gm;constructor
 .intro h;split at h
  .rename_i h1;split at h
   .rename_i h2;split at h
    .rename_i h3;have h4:=qc.1 h;exact⟨h1.1,h1.2,kg.1 h2,m8.1 h3,h4.1,h4.2⟩
    .rename_i h3;exact absurd h h3
   .rename_i h2;exact absurd h h2
  .cases h
 .intro h;rw[if_pos ⟨h.ah,h.places⟩,if_pos (kg.2 h.parts),if_pos (m8.2 h.iE),qc];exact⟨h.many,h.aa⟩
theorem LS (w:World) (v:Value) (b:an) (hb:ap w v b):
 Calls ZP 6 #[v] w (cn w fun r=>r=true->lE b/\Valid b):=by
 have HB:=hid hb;obtain⟨v2,v3,v4,rfl,⟨a2,c2,⟨rfl,_,_,_,_⟩,_⟩,⟨a3,c3,⟨rfl,_,_,_,_⟩,_⟩,⟨a4,c4,⟨rfl,_,_,_,_⟩,_⟩⟩:=hb;go_enter ZF6,Tryz.ntmps6
 have db:=HB.o.later (Kp.alloc w (.cells #[.int .i64 b.ah,.int .i64 b.places,.slice a2 b.parts.length c2,.slice a3 b.apart.length c3,.slice a4 b.aa.length c4] 26))
 go_wp2_with(first
  |(go_at_call 33;refine(E6 _ _ _ db).mono ?_;rintro e w1 ⟨⟨r,rfl,Qf⟩,np⟩;cases r;have HS:Hid (lE b):=Qf rfl;clear Qf;obtain⟨g0,g1,g2,g3,g4⟩:=pu.of np.jc)
  |(go_at_call 32;refine(wD _ _ _ (HB.o.later (Kp.boxed np.jc)) HS.o).mono ?_;rintro e w2 ⟨⟨r2,rfl,NF⟩,zf⟩;by_cases RQ:r2=0))
 .have HV:Hid (Valid b):=NF.1 RQ;go_ret;exact cn.mk (fun _=>⟨HS.o,HV.o⟩) (Below.boxed (np.jL zf))
 .go_ret;exact cn.mk (fun h=>by simp_all) (Below.boxed (np.jL zf))
 .go_ret;exact cn.mk (fun h=>by cases h) (Below.boxed np.jc)
end Go.Proofs.Cz
