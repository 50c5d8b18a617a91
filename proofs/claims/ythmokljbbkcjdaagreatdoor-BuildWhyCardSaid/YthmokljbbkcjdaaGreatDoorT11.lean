/- A part of the proof that BuildWhy returns true. Conditions: none. -/
import Derived.Test.YthmokljbbkcjdaaGreatDoorT10
import Derived.Laws.StructEq
set_option linter.unusedVariables false
set_option linter.unusedSimpArgs false
section
namespace Go.Proofs.Cz
open Go.RowKit
@[go_sem] theorem eqGuard119:Tz.prog.eqGuardType Tz.prog.depth 119=false:=by kernel_rfl
structure PairOk (n:Int) (x:Int×Int):Prop where
 one:0≤x.1∧x.1≤n-1
 two:0≤x.2∧x.2≤n-1
 le:x.1≤x.2
def NoPair (l:List (Int×Int)) (x:Int×Int) (k:Nat):Prop:=∀j y,j<k→l[j]?=some y→y≠x
theorem NoPair.zero (l:List (Int×Int)) (x:Int×Int):NoPair l x 0:=fun j y h=>by omega
theorem NoPair.succ {l:List (Int×Int)} {x y:Int×Int} {k:Nat} (h:NoPair l x k) (hy:l[k]?=some y) (hne:y≠x):NoPair l x (k+1):=fun j z hj hz=>by
 by_cases e:j=k
 ·subst e;rw[hy]at hz;cases hz;exact hne
 ·exact h j z (by omega) hz
def PairsTo (n:Int) (l:List (Int×Int)) (k:Nat):Prop:=∀j x,j<k→l[j]?=some x→PairOk n x∧NoPair l x j
theorem PairsTo.zero (n:Int) (l:List (Int×Int)):PairsTo n l 0:=fun j y h=>by omega
theorem PairsTo.succ {n:Int} {l:List (Int×Int)} {x:Int×Int} {k:Nat} (h:PairsTo n l k) (hx:l[k]?=some x) (h1:PairOk n x) (h2:NoPair l x k):PairsTo n l (k+1):=fun j z hj hz=>by
 by_cases e:j=k
 ·subst e;rw[hx]at hz;cases hz;exact⟨h1,h2⟩
 ·exact h j z (by omega) hz
structure PairsOk (b:Book):Prop where
 many:b.apart.length≤5
 all:PairsTo b.parts.length b.apart b.apart.length
set_option maxHeartbeats 4000000 in
theorem checkApart_any (w:World) (v:Value) (b:Book) (hb:BookAt w v b) (hp:1≤b.parts.length∧b.parts.length≤5):
 Calls Tz.prog 85 #[v] w (RetI w fun s=>s=0↔PairsOk b):=by
 obtain⟨v2,v3,v4,rfl,⟨a2,c2,h2,f2⟩,⟨a3,c3,h3,f3⟩,h4⟩:=hb
 have H3:Hid (SlAt w v3 b.apart.length a3 c3∧_):=⟨h3,f3⟩
 obtain⟨rfl,l2,m2,n2,r2⟩:=h2
 obtain⟨rfl,l3,m3,n3,r3⟩:=h3
 unfold maxLen at m2 m3
 clear r2 f2 n2 r3 f3 n3 h4
 have hw1:wrap64 ((b.parts.length:Int)-1)=b.parts.length-1:=by unfold wrap64;omega
 go_enter Tz.func85,Tz.ntmps85
 go_wp2
 ·rename_i hm
  go_ret
  exact RetI.mk (r:=2) (bad (by decide) fun h=>by have:=h.many;omega) ((Below.refl _ _).alloc (Nat.le_refl _) _)
 rename_i hm
 go_loopw [3] (fun i w1=>∃k:Nat,k≤b.apart.length∧Hid (PairsTo b.parts.length b.apart k)∧i=.int .i64 k∧Hid (Below (w.heap.size+1) (w.alloc (.cells #[.int .i64 b.beat,.int .i64 b.places,.slice a2 b.parts.length c2,.slice a3 b.apart.length c3,v4] 26)) w1)) (fun i _=>b.apart.length-(intOf i).toNat)
 case atStart=>exact⟨0,Nat.zero_le _,.zero _ _,rfl,Below.refl _ _⟩
 case round=>
  obtain⟨k,hk,hN,rfl,hB⟩:=hrel
  have g2:=boxed hB.out 2
  have g3:=boxed hB.out 3
  simp only[List.getElem?_toArray,List.getElem?_cons_succ,List.getElem?_cons_zero]at g2 g3
  by_cases hlt:k<b.apart.length
  ·obtain⟨⟨blk,off,sp⟩,⟨xa,xb⟩,rfl,hx,x0,x1⟩:=H3.out.1.elem H3.out.2 hlt
   obtain rfl:sp=none:=x0.1
   have HX:Hid (b.apart[k]?=some (xa,xb)):=hx
   have y0:=(x0.later (Kp.boxed hB.out)).2
   have y1:=(x1.later (Kp.boxed hB.out)).2
   simp only[←Nat.add_assoc]at y0 y1
   have hz1:w.heap.size+1≤wr.heap.size:=by have:=hB.out.size;simp at this;omega
   have hz2:blk<w.heap.size:=x0.lt
   have g2':∀o,(wr.alloc o).cell? ⟨w.heap.size,2,none⟩=some (.slice a2 b.parts.length c2):=fun o=>(cell_on (by show w.heap.size<_;omega) o).trans g2
   have g3':∀o,(wr.alloc o).cell? ⟨w.heap.size,3,none⟩=some (.slice (some ⟨blk,off,none⟩) b.apart.length c3):=fun o=>(cell_on (by show w.heap.size<_;omega) o).trans g3
   clear x0 x1 hx
   go_wp2_with(go_at_call 19;refine(in_b _ _ _ _).mono ?_;rintro e w' ⟨r,rfl,hr,rfl⟩;cases r)
   ·go_ret
    exact RetI.mk (r:=6) (bad (by decide) fun h=>hr.f (h.all k _ hlt HX.out).1.one) (Below.one (Below.boxed hB.out) (by omega) _ 0)
   ·go_ret
    exact RetI.mk (r:=6) (bad (by decide) fun h=>hr.f (h.all k _ hlt HX.out).1.two) (Below.one (Below.boxed hB.out) (by omega) _ 0)
   ·rename_i hgt
    go_ret
    exact RetI.mk (r:=7) (bad (by decide) fun h=>absurd (h.all k _ hlt HX.out).1.le (by simp only;omega)) (Below.one (Below.boxed hB.out) (by omega) _ 0)
   rename_i hr1 hle
   have HK:Hid (PairOk b.parts.length (xa,xb)):=⟨hr1.t,hr.t,hle⟩
   have HL:Hid (k<b.apart.length):=hlt
   clear hr hr1 hle
   go_loopw [5] (fun i w2=>∃m:Nat,m≤k∧Hid (NoPair b.apart (xa,xb) m)∧i=.int .i64 m∧∃n,w2=(wr.alloc (.cells #[.int .i64 xa,.int .i64 xb] 119)).drewN n) (fun i _=>k-(intOf i).toNat)
   case atStart=>exact⟨0,Nat.zero_le _,.zero _ _,rfl,0,rfl⟩
   case round=>
    obtain⟨m,hm2,hM,rfl,n0,rfl⟩:=hrel
    by_cases hmk:m<k
    ·obtain⟨b',⟨ya,yb⟩,hb',hy,z0,z1⟩:=H3.out.1.elem H3.out.2 (show m<b.apart.length by have:=HL.out;omega)
     cases hb'
     have q0:=((z0.later (Kp.boxed hB.out)).later (Kp.alloc wr (.cells #[.int .i64 xa,.int .i64 xb] 119))).2
     have q1:=((z1.later (Kp.boxed hB.out)).later (Kp.alloc wr (.cells #[.int .i64 xa,.int .i64 xb] 119))).2
     simp only[←Nat.add_assoc]at q0 q1
     have HY:Hid (b.apart[m]?=some (ya,yb)):=hy
     have hmk2:(m:Int)<(k:Int):=by omega
     have hml:(m:Int)<(b.apart.length:Int):=by omega
     clear hy z0 z1
     have hB1:=Below.one (Below.boxed hB.out) (by omega) (.cells #[.int .i64 xa,.int .i64 xb] 119)
     have HB1:Hid (∀n,Below w.heap.size w ((wr.alloc (.cells #[.int .i64 xa,.int .i64 xb] 119)).drewN n)):=hB1
     clear hB1
     by_cases e1:ya=xa
     ·by_cases e2:yb=xb
      ·subst e1 e2
       go_wp2
       go_quiet (fail)
       go_wp2
       go_ret
       exact RetI.mk (r:=5) (bad (by decide) fun h=>(h.all k _ HL.out HX.out).2 m _ hmk HY.out rfl) (Below.drewN (HB1.out _) _)
      ·subst e1
       have hne:Hid ((ya,yb)≠(ya,xb)):=(fun h=>e2 (by cases h;rfl):(ya,yb)≠(ya,xb))
       go_wp2
       go_quiet (fail)
       go_wp2
       go_round
       case rel=>exact⟨m+1,by omega,hM.out.succ HY.out hne.out,by go_num,_,rfl⟩
       case measure=>simp[intOf];omega
     ·have hne:Hid ((ya,yb)≠(xa,xb)):=(fun h=>e1 (by cases h;rfl):(ya,yb)≠(xa,xb))
      go_wp2
      go_quiet (fail)
      go_wp2
      go_round
      case rel=>exact⟨m+1,by omega,hM.out.succ HY.out hne.out,by go_num,_,rfl⟩
      case measure=>simp[intOf];omega
    ·have HM:Hid (NoPair b.apart (xa,xb) k):=(by have e:m=k:=by omega
                                                 subst e;exact hM.out)
     go_wp2
     go_round
     case rel=>exact⟨k+1,by omega,hN.out.succ HX.out HK.out HM.out,by go_num,Below.one hB.out (by omega) _ _⟩
     case measure=>simp[intOf];omega
  ·go_wp2
   go_ret
   have e:k=b.apart.length:=by omega
   subst e
   exact RetI.mk (r:=0) ⟨fun _=>⟨by omega,hN.out⟩,fun _=>rfl⟩ (Below.boxed hB.out)
end Go.Proofs.Cz
end
section
namespace Go.Proofs.Cz
open Go.RowKit
def IsPair (x:Int×Int) (p q:Int):Prop:=x.1=p∧x.2=q∨x.1=q∧x.2=p
def Apart (l:List (Int×Int)) (p q:Int):Prop:=∃x∈l,IsPair x p q
def FarTo (l:List (Int×Int)) (p q:Int) (k:Nat):Prop:=∀j x,j<k→l[j]?=some x→¬IsPair x p q
theorem FarTo.zero (l:List (Int×Int)) (p q:Int):FarTo l p q 0:=fun j y h=>by omega
theorem FarTo.succ {l:List (Int×Int)} {p q:Int} {x:Int×Int} {k:Nat} (h:FarTo l p q k) (hy:l[k]?=some x) (hne:¬IsPair x p q):FarTo l p q (k+1):=fun j z hj hz=>by
 by_cases e:j=k
 ·subst e;rw[hy]at hz;cases hz;exact hne
 ·exact h j z (by omega) hz
theorem FarTo.all {l:List (Int×Int)} {p q:Int} (h:FarTo l p q l.length):¬Apart l p q:=fun⟨x,hm,hx⟩=>by
 obtain⟨j,hj,rfl⟩:=List.getElem_of_mem hm
 exact h j _ hj (List.getElem?_eq_getElem hj) hx
set_option maxHeartbeats 4000000 in
theorem isApart_any (w:World) (v:Value) (b:Book) (p q:Int) (hb:BookAt w v b):
 Calls Tz.prog 98 #[v,.int .i64 p,.int .i64 q] w (RetB w fun r=>Tr r (Apart b.apart p q)):=by
 obtain⟨v2,v3,v4,rfl,h2,⟨a3,c3,h3,f3⟩,h4⟩:=hb
 have H3:Hid (SlAt w v3 b.apart.length a3 c3∧_):=⟨h3,f3⟩
 obtain⟨rfl,l3,m3,n3,r3⟩:=h3
 obtain⟨a2,c2,⟨rfl,_,_,_,_⟩,_⟩:=h2
 obtain⟨a4,c4,⟨rfl,_,_,_,_⟩,_⟩:=h4
 unfold maxLen at m3
 clear r3 f3 n3
 go_enter Tz.func98,Tz.ntmps98
 go_wp2
 go_loopw [7] (fun i w1=>∃k:Nat,k≤b.apart.length∧Hid (FarTo b.apart p q k)∧i=.int .i64 k∧Hid (Below (w.heap.size+1) (w.alloc (.cells #[.int .i64 b.beat,.int .i64 b.places,.slice a2 b.parts.length c2,.slice a3 b.apart.length c3,.slice a4 b.trials.length c4] 26)) w1)) (fun i _=>b.apart.length-(intOf i).toNat)
 case atStart=>exact⟨0,Nat.zero_le _,.zero _ _ _,rfl,Below.refl _ _⟩
 case round=>
  obtain⟨k,hk,hN,rfl,hB⟩:=hrel
  have g3:=boxed hB.out 3
  simp only[List.getElem?_toArray,List.getElem?_cons_succ,List.getElem?_cons_zero]at g3
  by_cases hlt:k<b.apart.length
  ·obtain⟨⟨blk,off,sp⟩,⟨xa,xb⟩,rfl,hx,x0,x1⟩:=H3.out.1.elem H3.out.2 hlt
   obtain rfl:sp=none:=x0.1
   have HX:Hid (b.apart[k]?=some (xa,xb)):=hx
   have y0:=(x0.later (Kp.boxed hB.out)).2
   have y1:=(x1.later (Kp.boxed hB.out)).2
   simp only[←Nat.add_assoc]at y0 y1
   have hz1:w.heap.size+1≤wr.heap.size:=by have:=hB.out.size;simp at this;omega
   have HZ:Hid (w.heap.size+1≤wr.heap.size):=hz1
   clear x0 x1 hx
   by_cases e:IsPair (xa,xb) p q
   ·have hm:=List.mem_of_getElem? HX.out
    rcases(show xa=p∧xb=q∨xa=q∧xb=p from e)with⟨rfl,rfl⟩|⟨rfl,rfl⟩
    ·go_wp2
     go_ret
     exact RetB.mk (.yes ⟨_,hm,.inl ⟨rfl,rfl⟩⟩) (Below.one (Below.boxed hB.out) (by omega) _ 0)
    ·by_cases e3:xa=xb
     ·subst e3
      go_wp2
      go_ret
      exact RetB.mk (.yes ⟨_,hm,.inl ⟨rfl,rfl⟩⟩) (Below.one (Below.boxed hB.out) (by omega) _ 0)
     ·go_wp2
      go_ret
      exact RetB.mk (.yes ⟨_,hm,.inr ⟨rfl,rfl⟩⟩) (Below.one (Below.boxed hB.out) (by omega) _ 0)
   ·have HE:Hid (¬IsPair (xa,xb) p q):=e
    have e1:¬(xa=p∧xb=q):=fun h=>e (.inl h)
    have e2:¬(xa=q∧xb=p):=fun h=>e (.inr h)
    clear e
    by_cases a1:xa=p
    ·subst a1
     have a2:¬xb=q:=fun h=>e1 ⟨rfl,h⟩
     clear e1
     by_cases a3:xa=q
     ·subst a3
      clear e2
      go_wp2
      go_round
      case rel=>exact⟨k+1,by omega,hN.out.succ HX.out HE.out,by go_num,Below.one hB.out HZ.out _ 0⟩
      case measure=>simp[intOf];omega
     ·clear e2
      go_wp2
      go_round
      case rel=>exact⟨k+1,by omega,hN.out.succ HX.out HE.out,by go_num,Below.one hB.out HZ.out _ 0⟩
      case measure=>simp[intOf];omega
    ·clear e1
     by_cases a3:xa=q
     ·subst a3
      have a4:¬xb=p:=fun h=>e2 ⟨rfl,h⟩
      clear e2
      go_wp2
      go_round
      case rel=>exact⟨k+1,by omega,hN.out.succ HX.out HE.out,by go_num,Below.one hB.out HZ.out _ 0⟩
      case measure=>simp[intOf];omega
     ·clear e2
      go_wp2
      go_round
      case rel=>exact⟨k+1,by omega,hN.out.succ HX.out HE.out,by go_num,Below.one hB.out HZ.out _ 0⟩
      case measure=>simp[intOf];omega
  ·go_wp2
   go_ret
   have e:k=b.apart.length:=by omega
   subst e
   exact RetB.mk (.no hN.out.all) (Below.boxed hB.out)
end Go.Proofs.Cz
end
section
namespace Go.Proofs.Cz
open Go.RowKit
def After (w0:World):Type:={w:World//Below w0.heap.size w0 w}
instance (w0 : World) : Nonempty (After w0) := ⟨⟨w0, Below.refl _ _⟩⟩
theorem After.cell {w0:World} (X:After w0) {a:Addr} {v:Value} (h:w0.cell? a=some v):X.1.cell? a=some v:=by
 have hk:a.block<w0.heap.size:=by
  unfold World.cell? at h
  split at h
  ·rename_i hx;exact(Array.getElem?_eq_some_iff.1 hx).1
  ·cases h
 exact(World.cell?_of_block (X.2.block _ hk)).trans h
theorem After.kp {w0:World} (X:After w0):Kp w0 X.1:=Kp.of X.2
theorem After.on {w0:World} (X:After w0) {w:World} (h:Below X.1.heap.size X.1 w):∃Y:After w0,w=Y.1:=⟨⟨w,X.2.trans (h.mono X.2.size)⟩,rfl⟩
theorem After.same {w0:World} (X:After w0) {w:World} (h:w=X.1):∃Y:After w0,w=Y.1:=⟨X,h⟩
theorem wp_region_after {P:Program} {id:Nat} {Q:Exit→Act→World→Prop} {a:Act} {w:World} {l:List Oper} (hm:P.follows .mixedOrders=true) (hB:Region.lexB .any l.toArray=true)
 (h:wpQuiet P l.toArray (fun w'=>∃X:After w,w'=X.1) (fun a'=>∀w',(∃X:After w,w'=X.1)→Q .normal a' w') l a):(Code.region id l.toArray true).wp P Q a w:=
 wp_region_quiet (C:=fun w'=>∃X:After w,w'=X.1) hm hB ⟨⟨_,Below.drewN (Below.refl _ w) 1⟩,rfl⟩ (by simpa using h)
end Go.Proofs.Cz
end
section
namespace Go.Proofs.Cz
open Go.RowKit
def InTo (l:List Int) (n:Int) (k:Nat):Prop:=∀(j:Nat) (x:Int),j<k→l[j]?=some x→0≤x∧x≤n-1
theorem InTo.zero (l:List Int) (n:Int):InTo l n 0:=fun j y h=>by omega
theorem InTo.succ {l:List Int} {n x:Int} {k:Nat} (h:InTo l n k) (hy:l[k]?=some x) (hne:0≤x∧x≤n-1):InTo l n (k+1):=fun j z hj hz=>by
 by_cases e:j=k
 ·subst e;rw[hy]at hz;cases hz;exact hne
 ·exact h j z (by omega) hz
structure FitAt (b:Book) (l:List Int) (j:Nat) (x:Int):Prop where
 fits:∃P,b.parts[x.toNat]?=some P∧(j:Int)∈P.fits
 far:0<j→∀y,l[j-1]?=some y→¬Apart b.apart y x
def FitTo (b:Book) (l:List Int) (k:Nat):Prop:=∀j x,j<k→l[j]?=some x→FitAt b l j x
theorem FitTo.zero (b:Book) (l:List Int):FitTo b l 0:=fun j y h=>by omega
theorem FitTo.succ {b:Book} {l:List Int} {x:Int} {k:Nat} (h:FitTo b l k) (hy:l[k]?=some x) (hne:FitAt b l k x):FitTo b l (k+1):=fun j z hj hz=>by
 by_cases e:j=k
 ·subst e;rw[hy]at hz;cases hz;exact hne
 ·exact h j z (by omega) hz
structure MachOk (b:Book) (l:List Int):Prop where
 len:(l.length:Int)=b.places
 range:InTo l b.parts.length l.length
 fit:FitTo b l l.length
open Classical in
noncomputable def machBell (b:Book) (l:List Int):Int:=
 if(l.length:Int)=b.places then if InTo l b.parts.length l.length then if FitTo b l l.length then 0 else 3 else 6 else 2
section
variable {b:Book} {l:List Int}
theorem machBell_len (h:¬(l.length:Int)=b.places):2=machBell b l:=by unfold machBell;rw[if_neg h]
theorem machBell_in (h:(l.length:Int)=b.places) (h2:¬InTo l b.parts.length l.length):6=machBell b l:=by unfold machBell;rw[if_pos h,if_neg h2]
theorem machBell_fit (h:(l.length:Int)=b.places) (h2:InTo l b.parts.length l.length) (h3:¬FitTo b l l.length):3=machBell b l:=by unfold machBell;rw[if_pos h,if_pos h2,if_neg h3]
theorem machBell_ok (h:MachOk b l):0=machBell b l:=by unfold machBell;rw[if_pos h.len,if_pos h.range,if_pos h.fit]
theorem machBell_zero:machBell b l=0↔MachOk b l:=by
 refine⟨fun h=>?_,fun h=>(machBell_ok h).symm⟩
 by_cases h1:(l.length:Int)=b.places
 ·by_cases h2:InTo l b.parts.length l.length
  ·by_cases h3:FitTo b l l.length
   ·exact⟨h1,h2,h3⟩
   ·rw[←machBell_fit h1 h2 h3]at h;cases h
  ·rw[←machBell_in h1 h2]at h;cases h
 ·rw[←machBell_len h1]at h;cases h
end
structure Box5 (w:World) (g:Nat) (v0 v1 v2 v3 v4:Value):Prop where
 c0:w.cell? ⟨g,0,none⟩=some v0
 c1:w.cell? ⟨g,1,none⟩=some v1
 c2:w.cell? ⟨g,2,none⟩=some v2
 c3:w.cell? ⟨g,3,none⟩=some v3
 c4:w.cell? ⟨g,4,none⟩=some v4
theorem Box5.of {w w1:World} {v0 v1 v2 v3 v4:Value} (h:Below (w.heap.size+1) (w.alloc (.cells #[v0,v1,v2,v3,v4] 26)) w1):Box5 w1 w.heap.size v0 v1 v2 v3 v4:=
 ⟨boxed h 0,boxed h 1,boxed h 2,boxed h 3,boxed h 4⟩
set_option maxHeartbeats 4000000 in
theorem checkMachine_any (w:World) (v vl:Value) (b:Book) (l:List Int) (hb:BookAt w v b) (hl:IntsAt w vl l) (hp:1≤b.parts.length∧b.parts.length≤5):
 Calls Tz.prog 86 #[v,vl] w (RetI w fun s=>s=machBell b l):=by
 have HB:Hid (BookAt w v b):=hb
 obtain⟨v2,v3,v4,rfl,⟨a2,c2,h2,f2⟩,⟨a3,c3,⟨rfl,_,_,_,_⟩,_⟩,⟨a4,c4,⟨rfl,_,_,_,_⟩,_⟩⟩:=hb
 obtain⟨al,cl,hl2,fl⟩:=hl
 have H2:Hid (SlAt w v2 b.parts.length a2 c2∧_):=⟨h2,f2⟩
 have HL:Hid (SlAt w vl l.length al cl∧_):=⟨hl2,fl⟩
 obtain⟨rfl,l2,m2,n2,r2⟩:=h2
 obtain⟨rfl,ll,ml,nl,rl⟩:=hl2
 unfold maxLen at m2 ml
 clear r2 f2 n2 rl fl nl
 have hw1:wrap64 ((b.parts.length:Int)-1)=b.parts.length-1:=by unfold wrap64;omega
 go_enter Tz.func86,Tz.ntmps86
 by_cases hlen:(l.length:Int)=b.places
 case neg=>
  go_wp2
  go_ret
  exact RetI.mk (r:=2) (machBell_len hlen) ((Below.refl _ _).alloc (Nat.le_refl _) _)
 have HLEN:Hid ((l.length:Int)=b.places):=hlen
 have hne:((l.length:Int)!=b.places)=false:=by simp[hlen]
 clear hlen
 go_wp2
 go_loopw [5] (fun i w1=>∃k:Nat,k≤l.length∧Hid (InTo l b.parts.length k)∧i=.int .i64 k∧Hid (Below (w.heap.size+1) (w.alloc (.cells #[.int .i64 b.beat,.int .i64 b.places,.slice a2 b.parts.length c2,.slice a3 b.apart.length c3,.slice a4 b.trials.length c4] 26)) w1)) (fun i _=>l.length-(intOf i).toNat)
 case atStart=>exact⟨0,Nat.zero_le _,.zero _ _,rfl,Below.refl _ _⟩
 case round=>
  obtain⟨k,hk,hN,rfl,hB⟩:=hrel
  obtain⟨g0,g1,g2,g3,g4⟩:=Box5.of hB.out
  by_cases hlt:k<l.length
  ·obtain⟨⟨blk,off,sp⟩,x,rfl,hx,x0⟩:=HL.out.1.elem HL.out.2 hlt
   obtain rfl:sp=none:=x0.1
   have HX:Hid (l[k]?=some x):=hx
   have y0:=(x0.later (Kp.boxed hB.out)).2
   simp only at y0
   have hk2:(k:Int)<(l.length:Int):=by omega
   clear x0 hx
   by_cases e:0≤x∧x≤(b.parts.length:Int)-1
   ·have HE:Hid (0≤x∧x≤(b.parts.length:Int)-1):=e
    have hd:(decide (0≤x)&&decide (x≤(b.parts.length:Int)-1))=true:=by simpa using e
    clear e
    go_wp2
    go_quiet ((go_at_call 19;exact(in_any _ _ _ _).mono fun e w' h=>⟨h.1.trans (by rw[hd]),_,h.2⟩))
    go_wp2
    go_round
    case rel=>exact⟨k+1,by omega,hN.out.succ HX.out HE.out,by go_num,Below.drewN hB.out _⟩
    case measure=>simp[intOf];omega
   ·have HE:Hid (¬(0≤x∧x≤(b.parts.length:Int)-1)):=e
    have hd:(decide (0≤x)&&decide (x≤(b.parts.length:Int)-1))=false:=by
     cases hh:(decide (0≤x)&&decide (x≤(b.parts.length:Int)-1))with
     |false=>rfl
     |true=>exact absurd (by simpa using hh) e
    clear e
    go_wp2
    go_quiet ((go_at_call 19;exact(in_any _ _ _ _).mono fun e w' h=>⟨h.1.trans (by rw[hd]),_,h.2⟩))
    go_wp2
    go_ret
    exact RetI.mk (r:=6) (machBell_in HLEN.out fun h=>HE.out (h k x hlt HX.out)) (Below.drewN (Below.boxed hB.out) _)
  ·have HN:Hid (InTo l b.parts.length l.length):=(by have e:k=l.length:=by omega
                                                     subst e;exact hN.out)
   clear hN
   go_wp2
   go_loopw [6] (fun i w1=>∃k:Nat,k≤l.length∧Hid (FitTo b l k)∧i=.int .i64 k∧Hid (Below (w.heap.size+1) (w.alloc (.cells #[.int .i64 b.beat,.int .i64 b.places,.slice a2 b.parts.length c2,.slice a3 b.apart.length c3,.slice a4 b.trials.length c4] 26)) w1)) (fun i _=>l.length-(intOf i).toNat)
   case atStart=>exact⟨0,Nat.zero_le _,.zero _ _,rfl,hB.out⟩
   case round=>
    clear g0 g1 g2 g3 g4 hB hlt hk
    obtain⟨k,hk,hN,rfl,hB⟩:=hrel
    have gg:=Box5.of hB.out
    by_cases hlt:k<l.length
    ·obtain⟨⟨blk,off,sp⟩,x,rfl,hx,x0⟩:=HL.out.1.elem HL.out.2 hlt
     obtain rfl:sp=none:=x0.1
     obtain⟨xn,rfl⟩:=Int.eq_ofNat_of_zero_le (HN.out k x hlt hx).1
     have hxr:=(HN.out k xn hlt hx).2
     have hxn:xn<b.parts.length:=by omega
     obtain⟨⟨pb,po,ps⟩,P,rfl,hP,_,_,_,_,_,vf,p5,hvf⟩:=H2.out.1.elem H2.out.2 hxn
     obtain rfl:ps=none:=p5.1
     have hf:=hvf
     obtain⟨af,cf,⟨rfl,_,_,_,_⟩,_⟩:=hvf
     have HX:Hid (l[k]?=some (xn:Int)∧b.parts[xn]?=some P):=⟨hx,hP⟩
     have G0:=fun X:After wr=>X.cell gg.c0
     have G1:=fun X:After wr=>X.cell gg.c1
     have G2:=fun X:After wr=>X.cell gg.c2
     have G3:=fun X:After wr=>X.cell gg.c3
     have G4:=fun X:After wr=>X.cell gg.c4
     have Y0:=fun X:After wr=>X.cell (x0.later (Kp.boxed hB.out)).2
     have Y5:=fun X:After wr=>X.cell (p5.later (Kp.boxed hB.out)).2
     simp only[←Nat.add_assoc]at Y0 Y5
     have hk2:(k:Int)<(l.length:Int):=by omega
     have hx2:(xn:Int)<(b.parts.length:Int):=by omega
     have hz:Hid (w.heap.size+1≤wr.heap.size):=by have:=hB.out.size;simp at this;exact(by omega:w.heap.size+1≤wr.heap.size)
     clear x0 hx hP p5 gg
     have hasC:∀X:After wr,Calls Tz.prog 20 #[.slice af P.fits.length cf,.int .i64 k] X.1 (fun e w''=>e=.returned (.bool (decide ((k:Int)∈P.fits)))∧∃Y:After wr,w''=Y.1):=fun X=>
      (has_any _ _ _ _ ((hf.later (Kp.boxed hB.out)).later X.kp)).mono fun e w' h=>⟨h.1,X.same h.2⟩
     by_cases hfit:(k:Int)∈P.fits
     ·have HF:Hid (∃P,b.parts[((xn:Int)).toNat]?=some P∧(k:Int)∈P.fits):=⟨P,by simpa using HX.out.2,hfit⟩
      rw[decide_eq_true hfit]at hasC
      clear hfit
      by_cases hk0:0<k
      ·obtain⟨b',z,hb',hz',z0⟩:=HL.out.1.elem HL.out.2 (show k-1<l.length by omega)
       cases hb'
       have Z0:=fun X:After wr=>X.cell (z0.later (Kp.boxed hB.out)).2
       simp only at Z0
       have HZ:Hid (l[k-1]?=some z):=hz'
       have hk1:wrap64 ((k:Int)-1)=((k-1:Nat):Int):=by unfold wrap64;omega
       have hk3:(0:Int)<(k:Int):=by omega
       have hk4:((k-1:Nat):Int)<(l.length:Int):=by omega
       clear z0 hz'
       have farC:∀X:After wr,Calls Tz.prog 98 #[.agg #[.int .i64 b.beat,.int .i64 b.places,.slice (some ⟨pb,po,none⟩) b.parts.length c2,.slice a3 b.apart.length c3,.slice a4 b.trials.length c4],.int .i64 z,.int .i64 xn] X.1 (fun e w''=>(∃r,e=.returned (.bool r)∧Tr r (Apart b.apart z xn))∧∃Y:After wr,w''=Y.1):=fun X=>
        (isApart_any _ _ _ _ _ ((HB.out.later (Kp.boxed hB.out)).later X.kp)).mono fun e w' h=>⟨h.1,X.on h.2⟩
       by_cases hap:Apart b.apart z xn
       ·have HA:Hid (Apart b.apart z xn):=hap
        have farC:∀X:After wr,Calls Tz.prog 98 #[.agg #[.int .i64 b.beat,.int .i64 b.places,.slice (some ⟨pb,po,none⟩) b.parts.length c2,.slice a3 b.apart.length c3,.slice a4 b.trials.length c4],.int .i64 z,.int .i64 xn] X.1 (fun e w''=>e=.returned (.bool true)∧∃Y:After wr,w''=Y.1):=fun X=>
         (farC X).mono fun e w' ⟨⟨r,h1,h2⟩,h3⟩=>⟨by rw[h1,h2.2 hap],h3⟩
        clear hap
        go_wp2
        refine wp_region_after (by kernel_rfl) (by kernel_rfl) ?_
        repeat(go_big_quiet_step (first|(go_at_call 20;exact hasC _)|(go_at_call 98;exact farC _)))
        refine wpQuiet_nil ?_
        rintro _ ⟨X,rfl⟩
        go_wp2
        go_ret
        exact RetI.mk (r:=3) (machBell_fit HLEN.out HN.out fun h=>(h k _ hlt HX.out.1).far hk0 z HZ.out HA.out) ((Below.boxed hB.out).trans (X.2.mono (Nat.le_trans (Nat.le_succ _) hz.out)))
       ·have HA:Hid (FitAt b l k xn):=⟨HF.out,fun _ y hy=>by rw[HZ.out]at hy;cases hy;exact hap⟩
        have farC:∀X:After wr,Calls Tz.prog 98 #[.agg #[.int .i64 b.beat,.int .i64 b.places,.slice (some ⟨pb,po,none⟩) b.parts.length c2,.slice a3 b.apart.length c3,.slice a4 b.trials.length c4],.int .i64 z,.int .i64 xn] X.1 (fun e w''=>e=.returned (.bool false)∧∃Y:After wr,w''=Y.1):=fun X=>
         (farC X).mono fun e w' ⟨⟨r,h1,h2⟩,h3⟩=>⟨by cases r with
           |false=>exact h1
           |true=>exact absurd h2.t hap,h3⟩
        clear hap
        go_wp2
        refine wp_region_after (by kernel_rfl) (by kernel_rfl) ?_
        repeat(go_big_quiet_step (first|(go_at_call 20;exact hasC _)|(go_at_call 98;exact farC _)))
        refine wpQuiet_nil ?_
        rintro _ ⟨X,rfl⟩
        go_wp2
        go_round
        case rel=>exact⟨k+1,by omega,hN.out.succ HX.out.1 HA.out,by go_num,hB.out.trans (X.2.mono hz.out)⟩
        case measure=>simp[intOf];omega
      ·have HA:Hid (FitAt b l k xn):=⟨HF.out,fun h=>absurd h hk0⟩
       have hk3:¬(0:Int)<(k:Int):=by omega
       go_wp2
       refine wp_region_after (by kernel_rfl) (by kernel_rfl) ?_
       repeat(go_big_quiet_step (first|(go_at_call 20;exact hasC _)))
       refine wpQuiet_nil ?_
       rintro _ ⟨X,rfl⟩
       go_wp2
       go_round
       case rel=>exact⟨k+1,by omega,hN.out.succ HX.out.1 HA.out,by go_num,hB.out.trans (X.2.mono hz.out)⟩
       case measure=>simp[intOf];omega
     ·have HF:Hid (¬(k:Int)∈P.fits):=hfit
      rw[decide_eq_false hfit]at hasC
      clear hfit
      go_wp2
      refine wp_region_after (by kernel_rfl) (by kernel_rfl) ?_
      repeat(go_big_quiet_step (first|(go_at_call 20;exact hasC _)))
      refine wpQuiet_nil ?_
      rintro _ ⟨X,rfl⟩
      go_wp2
      go_ret
      exact RetI.mk (r:=3) (machBell_fit HLEN.out HN.out fun h=>by
       obtain⟨P',hP',hm⟩:=(h k _ hlt HX.out.1).fits
       simp only[Int.toNat_natCast]at hP'
       rw[HX.out.2]at hP'
       cases hP'
       exact HF.out hm) ((Below.boxed hB.out).trans (X.2.mono (Nat.le_trans (Nat.le_succ _) hz.out)))
    ·go_wp2
     go_ret
     have e:k=l.length:=by omega
     subst e
     exact RetI.mk (r:=0) (machBell_ok ⟨HLEN.out,HN.out,hN.out⟩) (Below.boxed hB.out)
end Go.Proofs.Cz
end
section
namespace Go.Proofs.Cz
open Go.RowKit
structure TrialOk (b:Book) (t:Trial):Prop where
 mach:MachOk b t.parts
 took:0≤t.lo∧t.lo≤t.hi∧t.hi≤99
def TrialsTo (b:Book) (k:Nat):Prop:=∀j t,j<k→b.trials[j]?=some t→TrialOk b t
theorem TrialsTo.zero (b:Book):TrialsTo b 0:=fun j y h=>by omega
theorem TrialsTo.succ {b:Book} {x:Trial} {k:Nat} (h:TrialsTo b k) (hy:b.trials[k]?=some x) (hne:TrialOk b x):TrialsTo b (k+1):=fun j z hj hz=>by
 by_cases e:j=k
 ·subst e;rw[hy]at hz;cases hz;exact hne
 ·exact h j z (by omega) hz
structure Valid (b:Book):Prop where
 beat:1≤b.beat∧b.beat≤99
 places:1≤b.places∧b.places≤4
 parts:PartsOk b
 pairs:PairsOk b
 many:b.trials.length≤4
 trials:TrialsTo b b.trials.length
end Go.Proofs.Cz
namespace Go.RowKit
theorem Below.ofAlloc {w w1:World} {o:Obj} (h:Below (w.alloc o).heap.size (w.alloc o) w1):Below (w.heap.size+1) (w.alloc o) w1:=by simpa using h
end Go.RowKit
namespace Go.Proofs.Cz
open Go.RowKit
end Go.Proofs.Cz
namespace Go.RowKit
theorem Below.ofAlloc2 {w w1 w2:World} {o:Obj} (h:Below (w.alloc o).heap.size (w.alloc o) w1) (k:Below w1.heap.size w1 w2):Below (w.heap.size+1) (w.alloc o) w2:=Below.ofAlloc (h.trans (k.mono h.size))
end Go.RowKit
namespace Go.Proofs.Cz
open Go.RowKit
set_option maxHeartbeats 4000000 in
theorem refCheck_any (w:World) (v:Value) (b:Book) (hb:BookAt w v b) (hs:Short b):
 Calls Tz.prog 41 #[v] w (RetI w fun s=>s=0↔Valid b):=by
 have HB:Hid (BookAt w v b):=hb
 obtain⟨v2,v3,v4,rfl,⟨a2,c2,⟨rfl,_,_,_,_⟩,_⟩,⟨a3,c3,⟨rfl,_,_,_,_⟩,_⟩,⟨a4,c4,h4,f4⟩⟩:=hb
 have H4:Hid (SlAt w v4 b.trials.length a4 c4∧_):=⟨h4,f4⟩
 obtain⟨rfl,l4,m4,n4,r4⟩:=h4
 unfold maxLen at m4
 clear r4 f4 n4
 go_enter Tz.func41,Tz.ntmps41
 have HB1:=HB.out.later (Kp.alloc w (.cells #[.int .i64 b.beat,.int .i64 b.places,.slice a2 b.parts.length c2,.slice a3 b.apart.length c3,.slice a4 b.trials.length c4] 26))
 go_wp2_with(first
  |(go_at_call 19;refine(in_b _ _ _ _).mono ?_;rintro e w' ⟨r,rfl,hr,rfl⟩;cases r)
  |(go_at_call 84;refine(checkParts_any _ _ _ HB1 hs hr.t).mono ?_;rintro e w1 ⟨⟨r,rfl,hr4⟩,hb4⟩;by_cases h84:r=0;obtain⟨g0,g1,g2,g3,g4⟩:=Box5.of hb4.ofAlloc)
  |(go_at_call 85;refine(checkApart_any _ _ _ (HB.out.later (Kp.boxed hb4.ofAlloc)) (hr4.1 h84).many).mono ?_;rintro e w2 ⟨⟨r2,rfl,hr5⟩,hb5⟩;by_cases h85:r2=0;obtain⟨q0,q1,q2,q3,q4⟩:=Box5.of (hb4.ofAlloc2 hb5)))
 ·go_ret
  exact RetI.mk (r:=1) (bad (by decide) fun h=>hr.f h.beat) ((Below.refl _ _).alloc (Nat.le_refl _) _)
 ·go_ret
  exact RetI.mk (r:=1) (bad (by decide) fun h=>hr.f h.places) ((Below.refl _ _).alloc (Nat.le_refl _) _)
 ·rename_i hm4
  go_ret
  exact RetI.mk (r:=2) (bad (by decide) fun h=>by have:=h.many;omega) (Below.boxed (hb4.ofAlloc2 hb5))
 ·have HV:Hid ((1≤b.beat∧b.beat≤99)∧(1≤b.places∧b.places≤4)∧PartsOk b∧PairsOk b∧b.trials.length≤4):=by
   exact⟨Tr.t (by assumption),hr.t,hr4.1 h84,hr5.1 h85,by omega⟩
  have hB5:Hid (Below (w.heap.size+1) (w.alloc (.cells #[.int .i64 b.beat,.int .i64 b.places,.slice a2 b.parts.length c2,.slice a3 b.apart.length c3,.slice a4 b.trials.length c4] 26)) w2):=hb4.ofAlloc2 hb5
  clear hr hr4 hr5 hb4 hb5 h84 h85 q0 q1 q2 q3 q4 g0 g1 g2 g3 g4
  go_loopw [5] (fun i w1=>∃k:Nat,k≤b.trials.length∧Hid (TrialsTo b k)∧i=.int .i64 k∧Hid (Below (w.heap.size+1) (w.alloc (.cells #[.int .i64 b.beat,.int .i64 b.places,.slice a2 b.parts.length c2,.slice a3 b.apart.length c3,.slice a4 b.trials.length c4] 26)) w1)) (fun i _=>b.trials.length-(intOf i).toNat)
  case atStart=>exact⟨0,Nat.zero_le _,.zero _,rfl,hB5⟩
  case round=>
   obtain⟨k,hk,hN,rfl,hB⟩:=hrel
   have gg:=Box5.of hB.out
   by_cases hlt:k<b.trials.length
   ·obtain⟨⟨blk,off,sp⟩,t,rfl,hx,⟨vf,x0,hf⟩,x1,x2⟩:=H4.out.1.elem H4.out.2 hlt
    obtain rfl:sp=none:=x0.1
    have hf':=hf
    obtain⟨af,cf,⟨rfl,_,_,_,_⟩,_⟩:=hf
    have HX:Hid (b.trials[k]?=some t):=hx
    obtain⟨s0,s1,s2,s3,s4⟩:=gg
    have G0:=fun X:After wr=>X.cell s0
    have G1:=fun X:After wr=>X.cell s1
    have G2:=fun X:After wr=>X.cell s2
    have G3:=fun X:After wr=>X.cell s3
    have G4:=fun X:After wr=>X.cell s4
    have Y0:=fun X:After wr=>X.cell (x0.later (Kp.boxed hB.out)).2
    have Y1:=fun X:After wr=>X.cell (x1.later (Kp.boxed hB.out)).2
    have Y2:=fun X:After wr=>X.cell (x2.later (Kp.boxed hB.out)).2
    simp only[←Nat.add_assoc]at Y0 Y1 Y2
    have hk2:(k:Int)<(b.trials.length:Int):=by omega
    have hz:Hid (w.heap.size+1≤wr.heap.size):=by have:=hB.out.size;simp at this;exact(by omega:w.heap.size+1≤wr.heap.size)
    have machC:∀X:After wr,Calls Tz.prog 86 #[.agg #[.int .i64 b.beat,.int .i64 b.places,.slice a2 b.parts.length c2,.slice a3 b.apart.length c3,.slice (some ⟨blk,off,none⟩) b.trials.length c4],.slice af t.parts.length cf] X.1 (fun e w''=>e=.returned (.int .i64 (machBell b t.parts))∧∃Y:After wr,w''=Y.1):=fun X=>
     (checkMachine_any _ _ _ _ _ ((HB.out.later (Kp.boxed hB.out)).later X.kp) ((hf'.later (Kp.boxed hB.out)).later X.kp) HV.out.2.2.1.many).mono fun e w' ⟨⟨r,h1,h2⟩,h3⟩=>⟨by rw[h1,h2],X.on h3⟩
    clear hf' x0 x1 x2 hx
    by_cases hmb:machBell b t.parts=0
    ·have HM:Hid (MachOk b t.parts):=machBell_zero.1 hmb
     go_wp2
     refine wp_region_after (by kernel_rfl) (by kernel_rfl) ?_
     repeat(go_big_quiet_step (first|(go_at_call 86;exact machC _)))
     refine wpQuiet_nil ?_
     rintro _ ⟨X,rfl⟩
     go_wp2_with(go_at_call 87;refine(within_any _ _ _ _ _).mono ?_;rintro e w' ⟨r,rfl,hr,rfl⟩;cases r)
     ·go_ret
      exact RetI.mk (r:=1) (bad (by decide) fun h=>hr.f (h.trials k _ hlt HX.out).took) (Below.alloc ((Below.boxed hB.out).trans (X.2.mono (Nat.le_trans (Nat.le_succ _) hz.out))) (Nat.le_trans (Nat.le_trans (Nat.le_succ _) hz.out) X.2.size) _)
     ·have HT:Hid (TrialOk b t):=⟨HM.out,hr.t⟩
      clear hr
      go_round
      case rel=>exact⟨k+1,by omega,hN.out.succ HX.out HT.out,by go_num,Below.alloc (hB.out.trans (X.2.mono hz.out)) (Nat.le_trans hz.out X.2.size) _⟩
      case measure=>simp[intOf];omega
    ·have HM:Hid (¬MachOk b t.parts):=fun h=>hmb (machBell_zero.2 h)
     go_wp2
     refine wp_region_after (by kernel_rfl) (by kernel_rfl) ?_
     repeat(go_big_quiet_step (first|(go_at_call 86;exact machC _)))
     refine wpQuiet_nil ?_
     rintro _ ⟨X,rfl⟩
     go_wp2
     go_ret
     exact RetI.mk (bad hmb fun h=>HM.out (h.trials k _ hlt HX.out).mach) ((Below.boxed hB.out).trans (X.2.mono (Nat.le_trans (Nat.le_succ _) hz.out)))
   ·have HN:Hid (TrialsTo b b.trials.length):=(by have e:k=b.trials.length:=by omega
                                                  subst e;exact hN.out)
    obtain⟨s0,s1,s2,s3,s4⟩:=gg
    go_wp2
    go_ret
    exact RetI.mk (r:=0) ⟨fun _=>⟨HV.out.1,HV.out.2.1,HV.out.2.2.1,HV.out.2.2.2.1,HV.out.2.2.2.2,HN.out⟩,fun _=>rfl⟩ (Below.boxed hB.out)
 ·go_ret
  exact RetI.mk (bad h85 fun h=>h85 (hr5.2 h.pairs)) (Below.boxed (hb4.ofAlloc2 hb5))
 ·go_ret
  exact RetI.mk (bad h84 fun h=>h84 (hr4.2 h.parts)) (Below.boxed hb4.ofAlloc)
end Go.Proofs.Cz
end
section
namespace Go.Proofs.Cz
open Go.RowKit
set_option maxHeartbeats 4000000 in
theorem fit_any (w:World) (v:Value) (b:Book) (hb:BookAt w v b):
 Calls Tz.prog 9 #[v] w (RetB w fun r=>r=true→Short b∧Valid b):=by
 have HB:Hid (BookAt w v b):=hb
 obtain⟨v2,v3,v4,rfl,⟨a2,c2,⟨rfl,_,_,_,_⟩,_⟩,⟨a3,c3,⟨rfl,_,_,_,_⟩,_⟩,⟨a4,c4,⟨rfl,_,_,_,_⟩,_⟩⟩:=hb
 go_enter Tz.func9,Tz.ntmps9
 have HB1:=HB.out.later (Kp.alloc w (.cells #[.int .i64 b.beat,.int .i64 b.places,.slice a2 b.parts.length c2,.slice a3 b.apart.length c3,.slice a4 b.trials.length c4] 26))
 go_wp2_with(first
  |(go_at_call 40;refine(great_any _ _ _ HB1).mono ?_;rintro e w1 ⟨⟨r,rfl,hr4⟩,hb4⟩;cases r;have HS:Hid (Short b):=hr4 rfl;clear hr4;obtain⟨g0,g1,g2,g3,g4⟩:=Box5.of hb4.ofAlloc)
  |(go_at_call 41;refine(refCheck_any _ _ _ (HB.out.later (Kp.boxed hb4.ofAlloc)) HS.out).mono ?_;rintro e w2 ⟨⟨r2,rfl,hr5⟩,hb5⟩;by_cases h85:r2=0))
 ·have HV:Hid (Valid b):=hr5.1 h85
  go_ret
  exact RetB.mk (fun _=>⟨HS.out,HV.out⟩) (Below.boxed (hb4.ofAlloc2 hb5))
 ·go_ret
  exact RetB.mk (fun h=>by simp_all) (Below.boxed (hb4.ofAlloc2 hb5))
 ·go_ret
  exact RetB.mk (fun h=>by cases h) (Below.boxed hb4.ofAlloc)
end Go.Proofs.Cz
end
