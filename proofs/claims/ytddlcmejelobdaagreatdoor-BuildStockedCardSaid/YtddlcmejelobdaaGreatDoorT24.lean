/- A part. Conditions: none. -/
import Derived.Test.YtddlcmejelobdaaGreatDoorT23
import Derived.Laws.StructEq
set_option linter.all false
set_option maxHeartbeats 8000000
namespace Go.Proofs.Cz
open Go.RowKit
variable {k:Nat} {n p q:Int} {w w0:World} {x:Int×Int}
@[go_sem] theorem Rj:ZP.eqGuardType ZP.depth 53=false:=by kernel_rfl
structure pu (n:Int) (x:Int×Int):Prop where
 one:0<=x.1/\x.1<=n-1
 two:0<=x.2/\x.2<=n-1
 le:x.1<=x.2
def f7 (l:List (Int×Int)) (x:Int×Int) (k:Nat):Prop:=∀j y,j<k->l[j]?=some y->y≠x
theorem f7.zero (l:List (Int×Int)) (x:Int×Int):f7 l x 0:=fun j y h=>by omega
theorem f7.succ {l:List (Int×Int)} {y:Int×Int} (h:f7 l x k) (hy:l[k]?=some y) (bC:y≠x):f7 l x (k+1):=fun j z hj hz=>by
 by_cases e:j=k
 .subst e;rw[hy]at hz;cases hz;exact bC
 .exact h j z (by omega) hz
def i9 (n:Int) (l:List (Int×Int)) (k:Nat):Prop:=∀j x,j<k->l[j]?=some x->pu n x/\f7 l x j
theorem i9.zero (n:Int) (l:List (Int×Int)):i9 n l 0:=fun j y h=>by omega
theorem i9.succ {l:List (Int×Int)} (h:i9 n l k) (hx:l[k]?=some x) (h1:pu n x) (h2:f7 l x k):i9 n l (k+1):=fun j z hj hz=>by
 by_cases e:j=k
 .subst e;rw[hx]at hz;cases hz;exact⟨h1,h2⟩
 .exact h j z (by omega) hz
structure eP (b:ai):Prop where
 many:b.apart.length<=5
 all:i9 b.parts.length b.apart b.apart.length
theorem sw (w:World) (v:Value) (b:ai) (hb:au w v b) (hp:1<=b.parts.length/\b.parts.length<=5):
 Calls ZP 106 #[v] w (aT w fun s=>s=0↔eP b):=by
 obtain⟨v2,v3,v4,rfl,⟨a2,c2,h2,f2⟩,⟨a3,c3,h3,f3⟩,h4⟩:=hb;have H3:Hid (bS w v3 b.apart.length a3 c3/\_):=⟨h3,f3⟩
 obtain⟨rfl,l2,m2,n2,r2⟩:=h2;obtain⟨rfl,l3,m3,n3,r3⟩:=h3;unfold maxLen at m2 m3;clear r2 f2 n2 r3 f3 n3 h4;have jK:wrap64 ((b.parts.length:Int)-1)=b.parts.length-1:=by unfold wrap64;omega
 go_enter ZF106,Tryz.ntmps106
 go_wp2
 .rename_i hm;go_ret;exact aT.mk (r:=2) (bad (by decide) fun h=>by have:=h.many;omega) ((Below.refl _ _).alloc (Nat.le_refl _) _)
 rename_i hm;go_loopw [3] (fun i w1=>∃k:Nat,k<=b.apart.length/\Hid (i9 b.parts.length b.apart k)/\i=.int .i64 k/\Hid (Below (w.heap.size+1) (w.alloc (.cells #[.int .i64 b.ao,.int .i64 b.places,.slice a2 b.parts.length c2,.slice a3 b.apart.length c3,v4] 26)) w1)) (fun i _=>b.apart.length-(intOf i).toNat)
 case atStart=>exact⟨0,Nat.zero_le _,.zero _ _,rfl,Below.refl _ _⟩
 case round=>
  obtain⟨k,hk,hN,rfl,hB⟩:=hrel;have g2:=boxed hB.o 2;have g3:=boxed hB.o 3;simp only[List.getElem?_toArray,List.getElem?_cons_succ,List.getElem?_cons_zero]at g2 g3;by_cases ar:k<b.apart.length
  .obtain⟨⟨blk,off,sp⟩,⟨xa,xb⟩,rfl,hx,x0,x1⟩:=H3.o.1.elem H3.o.2 ar;obtain rfl:sp=none:=x0.1;have HX:=hid hx;have y0:=(x0.later (Kp.boxed hB.o)).2;have y1:=(x1.later (Kp.boxed hB.o)).2;simp only[<-Nat.add_assoc]at y0 y1;have mU:w.heap.size+1<=wr.heap.size:=by have:=hB.o.size;simp at this;omega
   have pS:blk<w.heap.size:=x0.lt;have TV:∀o,(wr.alloc o).cell? ⟨w.heap.size,2,none⟩=some (.slice a2 b.parts.length c2):=fun o=>(ey (by show w.heap.size<_;omega) o).trans g2;have g3':∀o,(wr.alloc o).cell? ⟨w.heap.size,3,none⟩=some (.slice (some ⟨blk,off,none⟩) b.apart.length c3):=fun o=>(ey (by show w.heap.size<_;omega) o).trans g3;clear x0 x1 hx;go_wp2_with(go_at_call 12;refine(MJ _ _ _ _).mono ?_;rintro e w' ⟨r,rfl,hr,rfl⟩;cases r)
   .go_ret;exact aT.mk (r:=6) (bad (by decide) fun h=>hr.f (h.all k _ ar HX.o).1.one) (Below.one (Below.boxed hB.o) (by omega) _ 0)
   .go_ret;exact aT.mk (r:=6) (bad (by decide) fun h=>hr.f (h.all k _ ar HX.o).1.two) (Below.one (Below.boxed hB.o) (by omega) _ 0)
   .rename_i ym;go_ret;exact aT.mk (r:=7) (bad (by decide) fun h=>absurd (h.all k _ ar HX.o).1.le (by simp only;omega)) (Below.one (Below.boxed hB.o) (by omega) _ 0)
   rename_i rH hle;have HK:Hid (pu b.parts.length (xa,xb)):=⟨rH.t,hr.t,hle⟩
   have HL:=hid ar;clear hr rH hle;go_loopw [5] (fun i w2=>∃m:Nat,m<=k/\Hid (f7 b.apart (xa,xb) m)/\i=.int .i64 m/\∃n,w2=(wr.alloc (.cells #[.int .i64 xa,.int .i64 xb] 53)).drewN n) (fun i _=>k-(intOf i).toNat)
   case atStart=>exact⟨0,Nat.zero_le _,.zero _ _,rfl,0,rfl⟩
   case round=>
    obtain⟨m,hm2,hM,rfl,n0,rfl⟩:=hrel;by_cases gS:m<k
    .obtain⟨b',⟨ya,yb⟩,Jm,hy,z0,z1⟩:=H3.o.1.elem H3.o.2 (show m<b.apart.length by have:=HL.o;omega);cases Jm;have q0:=((z0.later (Kp.boxed hB.o)).later (Kp.alloc wr (.cells #[.int .i64 xa,.int .i64 xb] 53))).2;have q1:=((z1.later (Kp.boxed hB.o)).later (Kp.alloc wr (.cells #[.int .i64 xa,.int .i64 xb] 53))).2;simp only[<-Nat.add_assoc]at q0 q1;have HY:=hid hy;have Vt:(m:Int)<(k:Int):=by omega
     have OI:(m:Int)<(b.apart.length:Int):=by omega
     clear hy z0 z1;have hB1:=Below.one (Below.boxed hB.o) (by omega) (.cells #[.int .i64 xa,.int .i64 xb] 53);have fB:=hid hB1;clear hB1;by_cases e1:ya=xa
     .by_cases e2:yb=xb
      .subst e1 e2;go_wp2
       go_quiet (fail)
       go_wp2
       go_ret;exact aT.mk (r:=5) (bad (by decide) fun h=>(h.all k _ HL.o HX.o).2 m _ gS HY.o rfl) (Below.drewN (fB.o _) _)
      .subst e1;have bC:Hid ((ya,yb)≠(ya,xb)):=(fun h=>e2 (by cases h;rfl):(ya,yb)≠(ya,xb))
       go_wp2
       go_quiet (fail)
       go_wp2
       go_round
       case rel=>exact⟨m+1,by omega,hM.o.succ HY.o bC.o,by go_num,_,rfl⟩
       case measure=>simp[intOf];omega
     .have bC:Hid ((ya,yb)≠(xa,xb)):=(fun h=>e1 (by cases h;rfl):(ya,yb)≠(xa,xb))
      go_wp2
      go_quiet (fail)
      go_wp2
      go_round
      case rel=>exact⟨m+1,by omega,hM.o.succ HY.o bC.o,by go_num,_,rfl⟩
      case measure=>simp[intOf];omega
    .have HM:Hid (f7 b.apart (xa,xb) k):=(by have e:m=k:=by omega
                                             subst e;exact hM.o)
     go_wp2
     go_round
     case rel=>exact⟨k+1,by omega,hN.o.succ HX.o HK.o HM.o,by go_num,Below.one hB.o (by omega) _ _⟩
     case measure=>simp[intOf];omega
  .go_wp2
   go_ret;have e:k=b.apart.length:=by omega
   subst e;exact aT.mk (r:=0) ⟨fun _=>⟨by omega,hN.o⟩,fun _=>rfl⟩ (Below.boxed hB.o)
def wM (x:Int×Int) (p q:Int):Prop:=x.1=p/\x.2=q\/x.1=q/\x.2=p
def Apart (l:List (Int×Int)) (p q:Int):Prop:=∃x∈l,wM x p q
def pX (l:List (Int×Int)) (p q:Int) (k:Nat):Prop:=∀j x,j<k->l[j]?=some x->¬wM x p q
theorem pX.zero (l:List (Int×Int)) (p q:Int):pX l p q 0:=fun j y h=>by omega
theorem pX.succ {l:List (Int×Int)} (h:pX l p q k) (hy:l[k]?=some x) (bC:¬wM x p q):pX l p q (k+1):=fun j z hj hz=>by
 by_cases e:j=k
 .subst e;rw[hy]at hz;cases hz;exact bC
 .exact h j z (by omega) hz
theorem pX.all {l:List (Int×Int)} (h:pX l p q l.length):¬Apart l p q:=fun⟨x,hm,hx⟩=>by
 obtain⟨j,hj,rfl⟩:=List.getElem_of_mem hm;exact h j _ hj (List.getElem?_eq_getElem hj) hx
theorem pY (w:World) (v:Value) (b:ai) (p q:Int) (hb:au w v b):
 Calls ZP 112 #[v,.int .i64 p,.int .i64 q] w (cy w fun r=>Tr r (Apart b.apart p q)):=by
 obtain⟨v2,v3,v4,rfl,h2,⟨a3,c3,h3,f3⟩,h4⟩:=hb;have H3:Hid (bS w v3 b.apart.length a3 c3/\_):=⟨h3,f3⟩
 obtain⟨rfl,l3,m3,n3,r3⟩:=h3;obtain⟨a2,c2,⟨rfl,_,_,_,_⟩,_⟩:=h2;obtain⟨a4,c4,⟨rfl,_,_,_,_⟩,_⟩:=h4;unfold maxLen at m3;clear r3 f3 n3;go_enter ZF112,Tryz.ntmps112
 go_wp2
 go_loopw [7] (fun i w1=>∃k:Nat,k<=b.apart.length/\Hid (pX b.apart p q k)/\i=.int .i64 k/\Hid (Below (w.heap.size+1) (w.alloc (.cells #[.int .i64 b.ao,.int .i64 b.places,.slice a2 b.parts.length c2,.slice a3 b.apart.length c3,.slice a4 b.ab.length c4] 26)) w1)) (fun i _=>b.apart.length-(intOf i).toNat)
 case atStart=>exact⟨0,Nat.zero_le _,.zero _ _ _,rfl,Below.refl _ _⟩
 case round=>
  obtain⟨k,hk,hN,rfl,hB⟩:=hrel;have g3:=boxed hB.o 3;simp only[List.getElem?_toArray,List.getElem?_cons_succ,List.getElem?_cons_zero]at g3;by_cases ar:k<b.apart.length
  .obtain⟨⟨blk,off,sp⟩,⟨xa,xb⟩,rfl,hx,x0,x1⟩:=H3.o.1.elem H3.o.2 ar;obtain rfl:sp=none:=x0.1;have HX:=hid hx;have y0:=(x0.later (Kp.boxed hB.o)).2;have y1:=(x1.later (Kp.boxed hB.o)).2;simp only[<-Nat.add_assoc]at y0 y1;have mU:w.heap.size+1<=wr.heap.size:=by have:=hB.o.size;simp at this;omega
   have HZ:=hid mU;clear x0 x1 hx;by_cases e:wM (xa,xb) p q
   .have hm:=List.mem_of_getElem? HX.o;rcases(show xa=p/\xb=q\/xa=q/\xb=p from e)with⟨rfl,rfl⟩|⟨rfl,rfl⟩
    .go_wp2
     go_ret;exact cy.mk (.yes ⟨_,hm,.inl ⟨rfl,rfl⟩⟩) (Below.one (Below.boxed hB.o) (by omega) _ 0)
    .by_cases e3:xa=xb
     .subst e3;go_wp2
      go_ret;exact cy.mk (.yes ⟨_,hm,.inl ⟨rfl,rfl⟩⟩) (Below.one (Below.boxed hB.o) (by omega) _ 0)
     .go_wp2
      go_ret;exact cy.mk (.yes ⟨_,hm,.inr ⟨rfl,rfl⟩⟩) (Below.one (Below.boxed hB.o) (by omega) _ 0)
   .have HE:=hid e;have e1:¬(xa=p/\xb=q):=fun h=>e (.inl h);have e2:¬(xa=q/\xb=p):=fun h=>e (.inr h);clear e;by_cases a1:xa=p
    .subst a1;have a2:¬xb=q:=fun h=>e1 ⟨rfl,h⟩;clear e1;by_cases a3:xa=q
     .subst a3;clear e2;go_wp2
      go_round
      case rel=>exact⟨k+1,by omega,hN.o.succ HX.o HE.o,by go_num,Below.one hB.o HZ.o _ 0⟩
      case measure=>simp[intOf];omega
     .clear e2;go_wp2
      go_round
      case rel=>exact⟨k+1,by omega,hN.o.succ HX.o HE.o,by go_num,Below.one hB.o HZ.o _ 0⟩
      case measure=>simp[intOf];omega
    .clear e1;by_cases a3:xa=q
     .subst a3;have a4:¬xb=p:=fun h=>e2 ⟨rfl,h⟩;clear e2;go_wp2
      go_round
      case rel=>exact⟨k+1,by omega,hN.o.succ HX.o HE.o,by go_num,Below.one hB.o HZ.o _ 0⟩
      case measure=>simp[intOf];omega
     .clear e2;go_wp2
      go_round
      case rel=>exact⟨k+1,by omega,hN.o.succ HX.o HE.o,by go_num,Below.one hB.o HZ.o _ 0⟩
      case measure=>simp[intOf];omega
  .go_wp2
   go_ret;have e:k=b.apart.length:=by omega
   subst e;exact cy.mk (.no hN.o.all) (Below.boxed hB.o)
def ah (w0:World):Type:={w:World//Below w0.heap.size w0 w}
instance (w0 : World) : Nonempty (ah w0) := ⟨⟨w0, Below.refl _ _⟩⟩
theorem ah.cell (X:ah w0) {a:Addr} {v:Value} (h:w0.cell? a=some v):X.1.cell? a=some v:=by
 have hk:a.block<w0.heap.size:=by
  unfold World.cell? at h;split at h
  .rename_i hx;exact(Array.getElem?_eq_some_iff.1 hx).1
  .cases h
 exact(World.cell?_of_block (X.2.block _ hk)).trans h
theorem ah.kp (X:ah w0):Kp w0 X.1:=Kp.of X.2
theorem ah.on (X:ah w0) (h:Below X.1.heap.size X.1 w):∃Y:ah w0,w=Y.1:=⟨⟨w,X.2.trans (h.mono X.2.size)⟩,rfl⟩
theorem ah.same (X:ah w0) (h:w=X.1):∃Y:ah w0,w=Y.1:=⟨X,h⟩
theorem am {P:Program} {id:Nat} {Q:Exit->Act->World->Prop} {a:Act} {l:List Oper} (hm:P.follows .mixedOrders=true) (hB:Region.lexB .any l.toArray=true)
 (h:wpQuiet P l.toArray (fun w'=>∃X:ah w,w'=X.1) (fun a'=>∀w',(∃X:ah w,w'=X.1)->Q .normal a' w') l a):(Code.region id l.toArray true).wp P Q a w:=
 wp_region_quiet (C:=fun w'=>∃X:ah w,w'=X.1) hm hB ⟨⟨_,Below.drewN (Below.refl _ w) 1⟩,rfl⟩ (by simpa using h)
def kC (l:List Int) (n:Int) (k:Nat):Prop:=∀(j:Nat) (x:Int),j<k->l[j]?=some x->0<=x/\x<=n-1
theorem kC.zero (l:List Int) (n:Int):kC l n 0:=fun j y h=>by omega
theorem kC.succ {l:List Int} {x:Int} (h:kC l n k) (hy:l[k]?=some x) (bC:0<=x/\x<=n-1):kC l n (k+1):=fun j z hj hz=>by
 by_cases e:j=k
 .subst e;rw[hy]at hz;cases hz;exact bC
 .exact h j z (by omega) hz
structure DZ (b:ai) (l:List Int) (j:Nat) (x:Int):Prop where
 fits:∃P,b.parts[x.toNat]?=some P/\(j:Int)∈P.fits
 Tk:0<j->∀y,l[j-1]?=some y->¬Apart b.apart y x
def kr (b:ai) (l:List Int) (k:Nat):Prop:=∀j x,j<k->l[j]?=some x->DZ b l j x
theorem kr.zero (b:ai) (l:List Int):kr b l 0:=fun j y h=>by omega
theorem kr.succ {b:ai} {l:List Int} {x:Int} (h:kr b l k) (hy:l[k]?=some x) (bC:DZ b l k x):kr b l (k+1):=fun j z hj hz=>by
 by_cases e:j=k
 .subst e;rw[hy]at hz;cases hz;exact bC
 .exact h j z (by omega) hz
structure eF (b:ai) (l:List Int):Prop where
 len:(l.length:Int)=b.places
 range:kC l b.parts.length l.length
 fit:kr b l l.length
open Classical in
noncomputable def aJ (b:ai) (l:List Int):Int:=
 if(l.length:Int)=b.places then if kC l b.parts.length l.length then if kr b l l.length then 0 else 3 else 6 else 2
section
variable {b:ai} {l:List Int}
theorem j0 (h:¬(l.length:Int)=b.places):2=aJ b l:=by unfold aJ;rw[if_neg h]
theorem ly (h:(l.length:Int)=b.places) (h2:¬kC l b.parts.length l.length):6=aJ b l:=by unfold aJ;rw[if_pos h,if_neg h2]
theorem fM (h:(l.length:Int)=b.places) (h2:kC l b.parts.length l.length) (h3:¬kr b l l.length):3=aJ b l:=by unfold aJ;rw[if_pos h,if_pos h2,if_neg h3]
theorem lz (h:eF b l):0=aJ b l:=by unfold aJ;rw[if_pos h.len,if_pos h.range,if_pos h.fit]
theorem bZ:aJ b l=0↔eF b l:=by
 refine⟨fun h=>?_,fun h=>(lz h).symm⟩;by_cases h1:(l.length:Int)=b.places
 .by_cases h2:kC l b.parts.length l.length
  .by_cases h3:kr b l l.length
   .exact⟨h1,h2,h3⟩
   .rw[<-fM h1 h2 h3]at h;cases h
  .rw[<-ly h1 h2]at h;cases h
 .rw[<-j0 h1]at h;cases h
end
structure pv (w:World) (g:Nat) (v0 v1 v2 v3 v4:Value):Prop where
 c0:w.cell? ⟨g,0,none⟩=some v0
 c1:w.cell? ⟨g,1,none⟩=some v1
 c2:w.cell? ⟨g,2,none⟩=some v2
 c3:w.cell? ⟨g,3,none⟩=some v3
 c4:w.cell? ⟨g,4,none⟩=some v4
theorem pv.of {w1:World} {v0 v1 v2 v3 v4:Value} (h:Below (w.heap.size+1) (w.alloc (.cells #[v0,v1,v2,v3,v4] 26)) w1):pv w1 w.heap.size v0 v1 v2 v3 v4:=
 ⟨boxed h 0,boxed h 1,boxed h 2,boxed h 3,boxed h 4⟩
theorem oy (w:World) (v vl:Value) (b:ai) (l:List Int) (hb:au w v b) (hl:aC w vl l):
 Calls ZP 107 #[v,vl] w (aT w fun s=>s=aJ b l):=by
 have HB:=hid hb;obtain⟨v2,v3,v4,rfl,⟨a2,c2,h2,f2⟩,⟨a3,c3,⟨rfl,_,_,_,_⟩,_⟩,⟨a4,c4,⟨rfl,_,_,_,_⟩,_⟩⟩:=hb;obtain⟨al,cl,xZ,fl⟩:=hl;have H2:Hid (bS w v2 b.parts.length a2 c2/\_):=⟨h2,f2⟩
 have HL:Hid (bS w vl l.length al cl/\_):=⟨xZ,fl⟩
 obtain⟨rfl,l2,m2,n2,r2⟩:=h2;obtain⟨rfl,ll,ml,nl,rl⟩:=xZ;unfold maxLen at m2 ml;clear r2 f2 n2 rl fl nl;have jK:wrap64 ((b.parts.length:Int)-1)=b.parts.length-1:=by unfold wrap64;omega
 go_enter ZF107,Tryz.ntmps107
 by_cases hlen:(l.length:Int)=b.places
 case neg=>
  go_wp2
  go_ret;exact aT.mk (r:=2) (j0 hlen) ((Below.refl _ _).alloc (Nat.le_refl _) _)
 have sx:=hid hlen;have bC:((l.length:Int)!=b.places)=false:=by simp[hlen]
 clear hlen;go_wp2
 go_loopw [5] (fun i w1=>∃k:Nat,k<=l.length/\Hid (kC l b.parts.length k)/\i=.int .i64 k/\Hid (Below (w.heap.size+1) (w.alloc (.cells #[.int .i64 b.ao,.int .i64 b.places,.slice a2 b.parts.length c2,.slice a3 b.apart.length c3,.slice a4 b.ab.length c4] 26)) w1)) (fun i _=>l.length-(intOf i).toNat)
 case atStart=>exact⟨0,Nat.zero_le _,.zero _ _,rfl,Below.refl _ _⟩
 case round=>
  obtain⟨k,hk,hN,rfl,hB⟩:=hrel;obtain⟨g0,g1,g2,g3,g4⟩:=pv.of hB.o;by_cases ar:k<l.length
  .obtain⟨⟨blk,off,sp⟩,x,rfl,hx,x0⟩:=HL.o.1.elem HL.o.2 ar;obtain rfl:sp=none:=x0.1;have HX:=hid hx;have y0:=(x0.later (Kp.boxed hB.o)).2;simp only at y0;have mO:(k:Int)<(l.length:Int):=by omega
   clear x0 hx;by_cases e:0<=x/\x<=(b.parts.length:Int)-1
   .have HE:=hid e;have hd:(decide (0<=x)&&decide (x<=(b.parts.length:Int)-1))=true:=by simpa using e
    clear e;go_wp2
    go_quiet ((go_at_call 12;exact(mZ _ _ _ _).mono fun e w' h=>⟨h.1.trans (by rw[hd]),_,h.2⟩))
    go_wp2
    go_round
    case rel=>exact⟨k+1,by omega,hN.o.succ HX.o HE.o,by go_num,Below.drewN hB.o _⟩
    case measure=>simp[intOf];omega
   .have HE:=hid e
    have hd:(decide (0<=x)&&decide (x<=(b.parts.length:Int)-1))=false:=by
     cases hh:(decide (0<=x)&&decide (x<=(b.parts.length:Int)-1))with
     |false=>rfl
     |true=>exact absurd (by simpa using hh) e
    clear e;go_wp2
    go_quiet ((go_at_call 12;exact(mZ _ _ _ _).mono fun e w' h=>⟨h.1.trans (by rw[hd]),_,h.2⟩))
    go_wp2
    go_ret;exact aT.mk (r:=6) (ly sx.o fun h=>HE.o (h k x ar HX.o)) (Below.drewN (Below.boxed hB.o) _)
  .have HN:Hid (kC l b.parts.length l.length):=(by have e:k=l.length:=by omega
                                                   subst e;exact hN.o)
   clear hN;go_wp2
   go_loopw [6] (fun i w1=>∃k:Nat,k<=l.length/\Hid (kr b l k)/\i=.int .i64 k/\Hid (Below (w.heap.size+1) (w.alloc (.cells #[.int .i64 b.ao,.int .i64 b.places,.slice a2 b.parts.length c2,.slice a3 b.apart.length c3,.slice a4 b.ab.length c4] 26)) w1)) (fun i _=>l.length-(intOf i).toNat)
   case atStart=>exact⟨0,Nat.zero_le _,.zero _ _,rfl,hB.o⟩
   case round=>
    clear g0 g1 g2 g3 g4 hB ar hk;obtain⟨k,hk,hN,rfl,hB⟩:=hrel;have gg:=pv.of hB.o;by_cases ar:k<l.length
    .obtain⟨⟨blk,off,sp⟩,x,rfl,hx,x0⟩:=HL.o.1.elem HL.o.2 ar;obtain rfl:sp=none:=x0.1;obtain⟨xn,rfl⟩:=Int.eq_ofNat_of_zero_le (HN.o k x ar hx).1;have hxr:=(HN.o k xn ar hx).2;have GI:xn<b.parts.length:=by omega
     obtain⟨⟨pb,po,ps⟩,P,rfl,hP,_,_,_,_,_,vf,p5,GT⟩:=H2.o.1.elem H2.o.2 GI;obtain rfl:ps=none:=p5.1;have hf:=GT;obtain⟨af,cf,⟨rfl,_,_,_,_⟩,_⟩:=GT;have HX:Hid (l[k]?=some (xn:Int)/\b.parts[xn]?=some P):=⟨hx,hP⟩
     have G0:=fun X:ah wr=>X.cell gg.c0;have G1:=fun X:ah wr=>X.cell gg.c1;have G2:=fun X:ah wr=>X.cell gg.c2;have G3:=fun X:ah wr=>X.cell gg.c3;have G4:=fun X:ah wr=>X.cell gg.c4;have Y0:=fun X:ah wr=>X.cell (x0.later (Kp.boxed hB.o)).2;have Y5:=fun X:ah wr=>X.cell (p5.later (Kp.boxed hB.o)).2;simp only[<-Nat.add_assoc]at Y0 Y5;have mO:(k:Int)<(l.length:Int):=by omega
     have hx2:(xn:Int)<(b.parts.length:Int):=by omega
     have hz:Hid (w.heap.size+1<=wr.heap.size):=by have:=hB.o.size;simp at this;exact(by omega:w.heap.size+1<=wr.heap.size)
     clear x0 hx hP p5 gg
     have qD:∀X:ah wr,Calls ZP 77 #[.slice af P.fits.length cf,.int .i64 k] X.1 (fun e jk=>e=.returned (.bool (decide ((k:Int)∈P.fits)))/\∃Y:ah wr,jk=Y.1):=fun X=>
      (DX _ _ _ _ ((hf.later (Kp.boxed hB.o)).later X.kp)).mono fun e w' h=>⟨h.1,X.same h.2⟩
     by_cases kN:(k:Int)∈P.fits
     .have HF:Hid (∃P,b.parts[((xn:Int)).toNat]?=some P/\(k:Int)∈P.fits):=⟨P,by simpa using HX.o.2,kN⟩
      rw[decide_eq_true kN]at qD;clear kN;by_cases rh:0<k
      .obtain⟨b',z,Jm,OJ,z0⟩:=HL.o.1.elem HL.o.2 (show k-1<l.length by omega);cases Jm;have Z0:=fun X:ah wr=>X.cell (z0.later (Kp.boxed hB.o)).2;simp only at Z0;have HZ:Hid (l[k-1]?=some z):=OJ;have oL:wrap64 ((k:Int)-1)=((k-1:Nat):Int):=by unfold wrap64;omega
       have od:(0:Int)<(k:Int):=by omega
       have mT:((k-1:Nat):Int)<(l.length:Int):=by omega
       clear z0 OJ
       have m7:∀X:ah wr,Calls ZP 112 #[.agg #[.int .i64 b.ao,.int .i64 b.places,.slice (some ⟨pb,po,none⟩) b.parts.length c2,.slice a3 b.apart.length c3,.slice a4 b.ab.length c4],.int .i64 z,.int .i64 xn] X.1 (fun e jk=>(∃r,e=.returned (.bool r)/\Tr r (Apart b.apart z xn))/\∃Y:ah wr,jk=Y.1):=fun X=>
        (pY _ _ _ _ _ ((HB.o.later (Kp.boxed hB.o)).later X.kp)).mono fun e w' h=>⟨h.1,X.on h.2⟩
       by_cases qE:Apart b.apart z xn
       .have HA:=hid qE
        have m7:∀X:ah wr,Calls ZP 112 #[.agg #[.int .i64 b.ao,.int .i64 b.places,.slice (some ⟨pb,po,none⟩) b.parts.length c2,.slice a3 b.apart.length c3,.slice a4 b.ab.length c4],.int .i64 z,.int .i64 xn] X.1 (fun e jk=>e=.returned (.bool true)/\∃Y:ah wr,jk=Y.1):=fun X=>
         (m7 X).mono fun e w' ⟨⟨r,h1,h2⟩,h3⟩=>⟨by rw[h1,h2.2 qE],h3⟩
        clear qE;go_wp2
        refine am (by kernel_rfl) (by kernel_rfl) ?_;repeat(go_big_quiet_step (first|(go_at_call 77;exact qD _)|(go_at_call 112;exact m7 _)))
        refine wpQuiet_nil ?_;rintro _ ⟨X,rfl⟩;go_wp2
        go_ret;exact aT.mk (r:=3) (fM sx.o HN.o fun h=>(h k _ ar HX.o.1).Tk rh z HZ.o HA.o) ((Below.boxed hB.o).trans (X.2.mono (Nat.le_trans (Nat.le_succ _) hz.o)))
       .have HA:Hid (DZ b l k xn):=⟨HF.o,fun _ y hy=>by rw[HZ.o]at hy;cases hy;exact qE⟩
        have m7:∀X:ah wr,Calls ZP 112 #[.agg #[.int .i64 b.ao,.int .i64 b.places,.slice (some ⟨pb,po,none⟩) b.parts.length c2,.slice a3 b.apart.length c3,.slice a4 b.ab.length c4],.int .i64 z,.int .i64 xn] X.1 (fun e jk=>e=.returned (.bool false)/\∃Y:ah wr,jk=Y.1):=fun X=>
         (m7 X).mono fun e w' ⟨⟨r,h1,h2⟩,h3⟩=>⟨by cases r with
           |false=>exact h1
           |true=>exact absurd h2.t qE,h3⟩
        clear qE;go_wp2
        refine am (by kernel_rfl) (by kernel_rfl) ?_;repeat(go_big_quiet_step (first|(go_at_call 77;exact qD _)|(go_at_call 112;exact m7 _)))
        refine wpQuiet_nil ?_;rintro _ ⟨X,rfl⟩;go_wp2
        go_round
        case rel=>exact⟨k+1,by omega,hN.o.succ HX.o.1 HA.o,by go_num,hB.o.trans (X.2.mono hz.o)⟩
        case measure=>simp[intOf];omega
      .have HA:Hid (DZ b l k xn):=⟨HF.o,fun h=>absurd h rh⟩
       have od:¬(0:Int)<(k:Int):=by omega
       go_wp2
       refine am (by kernel_rfl) (by kernel_rfl) ?_;repeat(go_big_quiet_step (first|(go_at_call 77;exact qD _)))
       refine wpQuiet_nil ?_;rintro _ ⟨X,rfl⟩;go_wp2
       go_round
       case rel=>exact⟨k+1,by omega,hN.o.succ HX.o.1 HA.o,by go_num,hB.o.trans (X.2.mono hz.o)⟩
       case measure=>simp[intOf];omega
     .have HF:=hid kN;rw[decide_eq_false kN]at qD;clear kN;go_wp2
      refine am (by kernel_rfl) (by kernel_rfl) ?_;repeat(go_big_quiet_step (first|(go_at_call 77;exact qD _)))
      refine wpQuiet_nil ?_;rintro _ ⟨X,rfl⟩;go_wp2
      go_ret
      exact aT.mk (r:=3) (fM sx.o HN.o fun h=>by
       obtain⟨P',SU,hm⟩:=(h k _ ar HX.o.1).fits;simp only[Int.toNat_natCast]at SU;rw[HX.o.2]at SU;cases SU;exact HF.o hm) ((Below.boxed hB.o).trans (X.2.mono (Nat.le_trans (Nat.le_succ _) hz.o)))
    .go_wp2
     go_ret;have e:k=l.length:=by omega
     subst e;exact aT.mk (r:=0) (lz ⟨sx.o,HN.o,hN.o⟩) (Below.boxed hB.o)
theorem pw (w:World) (v vl:Value) (b:ai) (l:List Int) (hb:au w v b) (hl:aC w vl l) (hp:1<=b.parts.length/\b.parts.length<=5):
 Calls ZP 107 #[v,vl] w (aT w fun s=>s=aJ b l):=
 oy w v vl b l hb hl
end Go.Proofs.Cz
namespace Go.Proofs.Cz
open Go.RowKit
structure oz (b:ai) (t:fK):Prop where
 Rk:eF b t.parts
 Rm:0<=t.lo/\t.lo<=t.hi/\t.hi<=99
def fN (b:ai) (k:Nat):Prop:=∀j t,j<k->b.ab[j]?=some t->oz b t
theorem fN.zero (b:ai):fN b 0:=fun j y h=>by omega
theorem fN.succ {b:ai} {x:fK} {k:Nat} (h:fN b k) (hy:b.ab[k]?=some x) (bC:oz b x):fN b (k+1):=fun j z hj hz=>by
 by_cases e:j=k
 .subst e;rw[hy]at hz;cases hz;exact bC
 .exact h j z (by omega) hz
structure Valid (b:ai):Prop where
 ao:1<=b.ao/\b.ao<=99
 places:1<=b.places/\b.places<=4
 parts:qV b
 ic:eP b
 many:b.ab.length<=4
 ab:fN b b.ab.length
end Go.Proofs.Cz
namespace Go.RowKit
theorem Below.ja {w w1:World} {o:Obj} (h:Below (w.alloc o).heap.size (w.alloc o) w1):Below (w.heap.size+1) (w.alloc o) w1:=by simpa using h
end Go.RowKit
namespace Go.Proofs.Cz
open Go.RowKit
end Go.Proofs.Cz
namespace Go.RowKit
theorem Below.jE {w w1 w2:World} {o:Obj} (h:Below (w.alloc o).heap.size (w.alloc o) w1) (k:Below w1.heap.size w1 w2):Below (w.heap.size+1) (w.alloc o) w2:=Below.ja (h.trans (k.mono h.size))
end Go.RowKit
namespace Go.Proofs.Cz
open Go.RowKit
theorem wN (w:World) (v:Value) (b:ai) (hb:au w v b) (hs:fL b):
 Calls ZP 43 #[v] w (aT w fun s=>s=0↔Valid b):=by
 have HB:=hid hb;obtain⟨v2,v3,v4,rfl,⟨a2,c2,⟨rfl,_,_,_,_⟩,_⟩,⟨a3,c3,⟨rfl,_,_,_,_⟩,_⟩,⟨a4,c4,h4,f4⟩⟩:=hb;have H4:Hid (bS w v4 b.ab.length a4 c4/\_):=⟨h4,f4⟩
 obtain⟨rfl,l4,m4,n4,r4⟩:=h4;unfold maxLen at m4;clear r4 f4 n4;go_enter ZF43,Tryz.ntmps43
 have fB:=HB.o.later (Kp.alloc w (.cells #[.int .i64 b.ao,.int .i64 b.places,.slice a2 b.parts.length c2,.slice a3 b.apart.length c3,.slice a4 b.ab.length c4] 26))
 go_wp2_with(first
  |(go_at_call 12;refine(MJ _ _ _ _).mono ?_;rintro e w' ⟨r,rfl,hr,rfl⟩;cases r)
  |(go_at_call 105;refine(sv _ _ _ fB hs hr.t).mono ?_;rintro e w1 ⟨⟨r,rfl,Rn⟩,tS⟩;by_cases Vx:r=0;obtain⟨g0,g1,g2,g3,g4⟩:=pv.of tS.ja)
  |(go_at_call 106;refine(sw _ _ _ (HB.o.later (Kp.boxed tS.ja)) (Rn.1 Vx).many).mono ?_;rintro e w2 ⟨⟨r2,rfl,KM⟩,sy⟩;by_cases SV:r2=0;obtain⟨q0,q1,q2,q3,q4⟩:=pv.of (tS.jE sy)))
 .go_ret;exact aT.mk (r:=1) (bad (by decide) fun h=>hr.f h.ao) ((Below.refl _ _).alloc (Nat.le_refl _) _)
 .go_ret;exact aT.mk (r:=1) (bad (by decide) fun h=>hr.f h.places) ((Below.refl _ _).alloc (Nat.le_refl _) _)
 .rename_i ZR;go_ret;exact aT.mk (r:=2) (bad (by decide) fun h=>by have:=h.many;omega) (Below.boxed (tS.jE sy))
 .have HV:Hid ((1<=b.ao/\b.ao<=99)/\(1<=b.places/\b.places<=4)/\qV b/\eP b/\b.ab.length<=4):=by
   exact⟨Tr.t (by assumption),hr.t,Rn.1 Vx,KM.1 SV,by omega⟩
  have KO:Hid (Below (w.heap.size+1) (w.alloc (.cells #[.int .i64 b.ao,.int .i64 b.places,.slice a2 b.parts.length c2,.slice a3 b.apart.length c3,.slice a4 b.ab.length c4] 26)) w2):=tS.jE sy;clear hr Rn KM tS sy Vx SV q0 q1 q2 q3 q4 g0 g1 g2 g3 g4;go_loopw [5] (fun i w1=>∃k:Nat,k<=b.ab.length/\Hid (fN b k)/\i=.int .i64 k/\Hid (Below (w.heap.size+1) (w.alloc (.cells #[.int .i64 b.ao,.int .i64 b.places,.slice a2 b.parts.length c2,.slice a3 b.apart.length c3,.slice a4 b.ab.length c4] 26)) w1)) (fun i _=>b.ab.length-(intOf i).toNat)
  case atStart=>exact⟨0,Nat.zero_le _,.zero _,rfl,KO⟩
  case round=>
   obtain⟨k,hk,hN,rfl,hB⟩:=hrel;have gg:=pv.of hB.o;by_cases ar:k<b.ab.length
   .obtain⟨⟨blk,off,sp⟩,t,rfl,hx,⟨vf,x0,hf⟩,x1,x2⟩:=H4.o.1.elem H4.o.2 ar;obtain rfl:sp=none:=x0.1;have Dm:=hf;obtain⟨af,cf,⟨rfl,_,_,_,_⟩,_⟩:=hf;have HX:=hid hx;obtain⟨s0,s1,s2,s3,s4⟩:=gg;have G0:=fun X:ah wr=>X.cell s0;have G1:=fun X:ah wr=>X.cell s1;have G2:=fun X:ah wr=>X.cell s2;have G3:=fun X:ah wr=>X.cell s3;have G4:=fun X:ah wr=>X.cell s4;have Y0:=fun X:ah wr=>X.cell (x0.later (Kp.boxed hB.o)).2;have Y1:=fun X:ah wr=>X.cell (x1.later (Kp.boxed hB.o)).2;have Y2:=fun X:ah wr=>X.cell (x2.later (Kp.boxed hB.o)).2;simp only[<-Nat.add_assoc]at Y0 Y1 Y2;have mO:(k:Int)<(b.ab.length:Int):=by omega
    have hz:Hid (w.heap.size+1<=wr.heap.size):=by have:=hB.o.size;simp at this;exact(by omega:w.heap.size+1<=wr.heap.size)
    have OK:∀X:ah wr,Calls ZP 107 #[.agg #[.int .i64 b.ao,.int .i64 b.places,.slice a2 b.parts.length c2,.slice a3 b.apart.length c3,.slice (some ⟨blk,off,none⟩) b.ab.length c4],.slice af t.parts.length cf] X.1 (fun e jk=>e=.returned (.int .i64 (aJ b t.parts))/\∃Y:ah wr,jk=Y.1):=fun X=>
     (pw _ _ _ _ _ ((HB.o.later (Kp.boxed hB.o)).later X.kp) ((Dm.later (Kp.boxed hB.o)).later X.kp) HV.o.2.2.1.many).mono fun e w' ⟨⟨r,h1,h2⟩,h3⟩=>⟨by rw[h1,h2],X.on h3⟩
    clear Dm x0 x1 x2 hx;by_cases D0:aJ b t.parts=0
    .have HM:Hid (eF b t.parts):=bZ.1 D0;go_wp2
     refine am (by kernel_rfl) (by kernel_rfl) ?_;repeat(go_big_quiet_step (first|(go_at_call 107;exact OK _)))
     refine wpQuiet_nil ?_;rintro _ ⟨X,rfl⟩;go_wp2_with(go_at_call 102;refine(sr _ _ _ _ _).mono ?_;rintro e w' ⟨r,rfl,hr,rfl⟩;cases r)
     .go_ret;exact aT.mk (r:=1) (bad (by decide) fun h=>hr.f (h.ab k _ ar HX.o).Rm) (Below.alloc ((Below.boxed hB.o).trans (X.2.mono (Nat.le_trans (Nat.le_succ _) hz.o))) (Nat.le_trans (Nat.le_trans (Nat.le_succ _) hz.o) X.2.size) _)
     .have HT:Hid (oz b t):=⟨HM.o,hr.t⟩
      clear hr;go_round
      case rel=>exact⟨k+1,by omega,hN.o.succ HX.o HT.o,by go_num,Below.alloc (hB.o.trans (X.2.mono hz.o)) (Nat.le_trans hz.o X.2.size) _⟩
      case measure=>simp[intOf];omega
    .have HM:Hid (¬eF b t.parts):=fun h=>D0 (bZ.2 h);go_wp2
     refine am (by kernel_rfl) (by kernel_rfl) ?_;repeat(go_big_quiet_step (first|(go_at_call 107;exact OK _)))
     refine wpQuiet_nil ?_;rintro _ ⟨X,rfl⟩;go_wp2
     go_ret;exact aT.mk (bad D0 fun h=>HM.o (h.ab k _ ar HX.o).Rk) ((Below.boxed hB.o).trans (X.2.mono (Nat.le_trans (Nat.le_succ _) hz.o)))
   .have HN:Hid (fN b b.ab.length):=(by have e:k=b.ab.length:=by omega
                                        subst e;exact hN.o)
    obtain⟨s0,s1,s2,s3,s4⟩:=gg;go_wp2
    go_ret;exact aT.mk (r:=0) ⟨fun _=>⟨HV.o.1,HV.o.2.1,HV.o.2.2.1,HV.o.2.2.2.1,HV.o.2.2.2.2,HN.o⟩,fun _=>rfl⟩ (Below.boxed hB.o)
 .go_ret;exact aT.mk (bad SV fun h=>SV (KM.2 h.ic)) (Below.boxed (tS.jE sy))
 .go_ret;exact aT.mk (bad Vx fun h=>Vx (Rn.2 h.parts)) (Below.boxed tS.ja)
end Go.Proofs.Cz
namespace Go.Proofs.Cz
open Go.RowKit
variable {b:ai} {t:fK}
open Classical in
noncomputable def dp (n:Int) (l:List (Int×Int)) (k:Nat):Int:=match l[k]? with
 |none=>0
 |some x=>if(0<=x.1/\x.1<=n-1)/\0<=x.2/\x.2<=n-1 then(if x.1<=x.2 then(if∃i,i<k/\l[i]?=some x then 5 else 0)else 7)else 6
noncomputable def bW (n:Int) (l:List (Int×Int)):Int:=if l.length<=5 then scan (dp n l) l.length else 2
section
variable {n:Int} {l:List (Int × Int)} {k:Nat} {x:Int × Int}
theorem Jq (hx:l[k]?=some x) (h:¬((0<=x.1/\x.1<=n-1)/\0<=x.2/\x.2<=n-1)):dp n l k=6:=by unfold dp;rw[hx];simp only;rw[if_neg h]
theorem Ro (hx:l[k]?=some x) (h:(0<=x.1/\x.1<=n-1)/\0<=x.2/\x.2<=n-1) (h2:¬x.1<=x.2):dp n l k=7:=by unfold dp;rw[hx];simp only;rw[if_pos h,if_neg h2]
theorem Rp (hx:l[k]?=some x) (h:pu n x) {i:Nat} (hi:i<k) (hy:l[i]?=some x):dp n l k=5:=by unfold dp;rw[hx];simp only;rw[if_pos ⟨h.one,h.two⟩,if_pos h.le,if_pos ⟨i,hi,hy⟩]
theorem Jr (hx:l[k]?=some x) (h:pu n x) (h2:f7 l x k):dp n l k=0:=by unfold dp;rw[hx];simp only;rw[if_pos ⟨h.one,h.two⟩,if_pos h.le,if_neg (fun⟨i,hi,hy⟩=>h2 i x hi hy rfl)]
theorem Cp (hm:l.length<=5):bW n l=scan (dp n l) l.length:=by unfold bW;rw[if_pos hm]
theorem m8:bW b.parts.length b.apart=0↔eP b:=by
 unfold bW;constructor
 .intro h;split at h
  .rename_i hm;refine⟨hm,fun j x hj hx=>?_⟩;have h1:=eA.1 h j hj;unfold dp at h1;rw[hx]at h1;simp only at h1;split at h1
   .rename_i h2;split at h1
    .rename_i h3;split at h1
     .cases h1
     .rename_i h4;exact⟨⟨h2.1,h2.2,h3⟩,fun i y hi hy e=>h4 ⟨i,hi,by rw[<-e];exact hy⟩⟩
    .cases h1
   .cases h1
  .cases h
 .intro h;rw[if_pos h.many,eA];intro j hj;have hx:b.apart[j]?=some b.apart[j]:=List.getElem?_eq_getElem hj;have h1:=h.all j _ hj hx;exact Jr hx h1.1 h1.2
end
theorem j6:bD b.places b.parts=0↔qV b:=by
 unfold bD;constructor
 .intro h;split at h
  .rename_i hm;refine⟨hm,fun j x hj hx=>?_⟩;have h1:=eA.1 h j hj;unfold cN at h1;rw[hx]at h1;simp only at h1;split at h1
   .rename_i h2;split at h1
    .cases h1
    .rename_i h3;split at h1
     .rename_i h4;exact⟨⟨h2,h4.1,h4.2.1,h4.2.2.1,h4.2.2.2,pW.1 h1⟩,fun i y hi hy e=>h3 ⟨i,y,hi,hy,e⟩⟩
     .cases h1
   .cases h1
  .cases h
 .intro h;rw[if_pos h.many,eA];intro j hj;have hx:b.parts[j]?=some b.parts[j]:=List.getElem?_eq_getElem hj;have h1:=h.all j _ hj hx;rw[Jp hx h1.1.name h1.2 ⟨h1.1.cost,h1.1.bL,h1.1.time,h1.1.wide⟩];exact pW.2 h1.1.Rf
noncomputable def dq (b:ai) (k:Nat):Int:=match b.ab[k]? with
 |none=>0
 |some t=>if aJ b t.parts=0 then(if 0<=t.lo/\t.lo<=t.hi/\t.hi<=99 then 0 else 1)else aJ b t.parts
noncomputable def dh (b:ai):Int:=if b.ab.length<=4 then scan (dq b) b.ab.length else 2
theorem D5 {k:Nat} (hx:b.ab[k]?=some t) (h:oz b t):dq b k=0:=by unfold dq;rw[hx];simp only;rw[if_pos (bZ.2 h.Rk),if_pos h.Rm]
theorem ML {k:Nat} (hx:b.ab[k]?=some t) (h:eF b t.parts) (h2:¬(0<=t.lo/\t.lo<=t.hi/\t.hi<=99)):dq b k=1:=by unfold dq;rw[hx];simp only;rw[if_pos (bZ.2 h),if_neg h2]
theorem MM {k:Nat} (hx:b.ab[k]?=some t) (h:aJ b t.parts≠0):dq b k=aJ b t.parts:=by unfold dq;rw[hx];simp only;rw[if_neg h]
theorem zz (hm:b.ab.length<=4):dh b=scan (dq b) b.ab.length:=by unfold dh;rw[if_pos hm]
theorem pZ:dh b=0↔b.ab.length<=4/\fN b b.ab.length:=by
 unfold dh;constructor
 .intro h;split at h
  .rename_i hm;refine⟨hm,fun j t hj ht=>?_⟩;have h1:=eA.1 h j hj;unfold dq at h1;rw[ht]at h1;simp only at h1;split at h1
   .rename_i h2;split at h1
    .rename_i h3;exact⟨bZ.1 h2,h3⟩
    .cases h1
   .rename_i h2;exact absurd h1 h2
  .cases h
 .rintro⟨hm,h⟩;rw[if_pos hm,eA];intro j hj;have hx:b.ab[j]?=some b.ab[j]:=List.getElem?_eq_getElem hj;exact D5 hx (h j _ hj hx)
noncomputable def bt (b:ai):Int:=
 if(1<=b.ao/\b.ao<=99)/\1<=b.places/\b.places<=4 then
  (if bD b.places b.parts=0 then(if bW b.parts.length b.apart=0 then dh b else bW b.parts.length b.apart)else bD b.places b.parts)
 else 1
theorem cX:bt b=0↔Valid b:=by
 unfold bt;constructor
 .intro h;split at h
  .rename_i h1;split at h
   .rename_i h2;split at h
    .rename_i h3;have h4:=pZ.1 h;exact⟨h1.1,h1.2,j6.1 h2,m8.1 h3,h4.1,h4.2⟩
    .rename_i h3;exact absurd h h3
   .rename_i h2;exact absurd h h2
  .cases h
 .intro h;rw[if_pos ⟨h.ao,h.places⟩,if_pos (j6.2 h.parts),if_pos (m8.2 h.ic),pZ];exact⟨h.many,h.ab⟩
theorem MN (w:World) (v:Value) (b:ai) (hb:au w v b):
 Calls ZP 8 #[v] w (cy w fun r=>r=true->fL b/\Valid b):=by
 have HB:=hid hb;obtain⟨v2,v3,v4,rfl,⟨a2,c2,⟨rfl,_,_,_,_⟩,_⟩,⟨a3,c3,⟨rfl,_,_,_,_⟩,_⟩,⟨a4,c4,⟨rfl,_,_,_,_⟩,_⟩⟩:=hb;go_enter ZF8,Tryz.ntmps8
 have fB:=HB.o.later (Kp.alloc w (.cells #[.int .i64 b.ao,.int .i64 b.places,.slice a2 b.parts.length c2,.slice a3 b.apart.length c3,.slice a4 b.ab.length c4] 26))
 go_wp2_with(first
  |(go_at_call 15;refine(FU _ _ _ fB).mono ?_;rintro e w1 ⟨⟨r,rfl,Rn⟩,tS⟩;cases r;have HS:Hid (fL b):=Rn rfl;clear Rn;obtain⟨g0,g1,g2,g3,g4⟩:=pv.of tS.ja)
  |(go_at_call 43;refine(wN _ _ _ (HB.o.later (Kp.boxed tS.ja)) HS.o).mono ?_;rintro e w2 ⟨⟨r2,rfl,KM⟩,sy⟩;by_cases SV:r2=0))
 .have HV:Hid (Valid b):=KM.1 SV;go_ret;exact cy.mk (fun _=>⟨HS.o,HV.o⟩) (Below.boxed (tS.jE sy))
 .go_ret;exact cy.mk (fun h=>by simp_all) (Below.boxed (tS.jE sy))
 .go_ret;exact cy.mk (fun h=>by cases h) (Below.boxed tS.ja)
end Go.Proofs.Cz
