/- A part. Conditions: none. -/
import Derived.Test.YtboiakcocelkmaaGreatDoorT23
import Derived.Laws.StructEq
set_option linter.all false
set_option maxHeartbeats 8000000
namespace Go.Proofs.Cz
open Go.RowKit
variable {k:Nat} {p q:Int} {w w0:World} {x:Int×Int}
@[go_sem] theorem Ol:ZP.eqGuardType ZP.depth 111=false:=by kernel_rfl
structure rH (n:Int) (x:Int×Int):Prop where
 one:0<=x.1/\x.1<=n-1
 two:0<=x.2/\x.2<=n-1
 le:x.1<=x.2
def gA (l:List (Int×Int)) (x:Int×Int) (k:Nat):Prop:=∀j y,j<k->l[j]?=some y->y≠x
theorem gA.zero (l:List (Int×Int)) (x:Int×Int):gA l x 0:=fun j y h=>by omega
theorem gA.succ {l:List (Int×Int)} {y:Int×Int} (h:gA l x k) (hy:l[k]?=some y) (bA:y≠x):gA l x (k+1):=fun j z hj hz=>by
 by_cases e:j=k
 .subst e;rw[hy]at hz;cases hz;exact bA
 .exact h j z (by omega) hz
def Ki (n:Int) (l:List (Int×Int)) (k:Nat):Prop:=∀j x,j<k->l[j]?=some x->rH n x/\gA l x j
structure fy (b:an):Prop where
 many:b.apart.length<=5
 all:Ki b.parts.length b.apart b.apart.length
def vC (x:Int×Int) (p q:Int):Prop:=x.1=p/\x.2=q\/x.1=q/\x.2=p
def Apart (l:List (Int×Int)) (p q:Int):Prop:=∃x∈l,vC x p q
def pA (l:List (Int×Int)) (p q:Int) (k:Nat):Prop:=∀j x,j<k->l[j]?=some x->¬vC x p q
theorem pA.zero (l:List (Int×Int)) (p q:Int):pA l p q 0:=fun j y h=>by omega
theorem pA.succ {l:List (Int×Int)} (h:pA l p q k) (hy:l[k]?=some x) (bA:¬vC x p q):pA l p q (k+1):=fun j z hj hz=>by
 by_cases e:j=k
 .subst e;rw[hy]at hz;cases hz;exact bA
 .exact h j z (by omega) hz
theorem pA.all {l:List (Int×Int)} (h:pA l p q l.length):¬Apart l p q:=fun⟨x,hm,hx⟩=>by
 obtain⟨j,hj,rfl⟩:=List.getElem_of_mem hm;exact h j _ hj (List.getElem?_eq_getElem hj) hx
theorem kG (w:World) (v:Value) (b:an) (p q:Int) (hb:aB w v b):
 Calls ZP 109 #[v,.int .i64 p,.int .i64 q] w (dF w fun r=>Tr r (Apart b.apart p q)):=by
 obtain⟨v2,v3,v4,rfl,h2,⟨a3,c3,h3,f3⟩,h4⟩:=hb;have H3:Hid (bB w v3 b.apart.length a3 c3/\_):=⟨h3,f3⟩
 obtain⟨rfl,l3,m3,n3,r3⟩:=h3;obtain⟨a2,c2,⟨rfl,_,_,_,_⟩,_⟩:=h2;obtain⟨a4,c4,⟨rfl,_,_,_,_⟩,_⟩:=h4;unfold maxLen at m3;clear r3 f3 n3;go_enter ZF109,Tryz.ntmps109
 go_wp2
 go_loopw [7] (fun i w1=>∃k:Nat,k<=b.apart.length/\Hid (pA b.apart p q k)/\i=.int .i64 k/\Hid (Below (w.heap.size+1) (w.alloc (.cells #[.int .i64 b.ap,.int .i64 b.places,.slice a2 b.parts.length c2,.slice a3 b.apart.length c3,.slice a4 b.aa.length c4] 26)) w1)) (fun i _=>b.apart.length-(intOf i).toNat)
 case atStart=>exact⟨0,Nat.zero_le _,.zero _ _ _,rfl,Below.refl _ _⟩
 case round=>
  obtain⟨k,hk,hN,rfl,hB⟩:=hrel;have g3:=boxed hB.o 3;simp only[List.getElem?_toArray,List.getElem?_cons_succ,List.getElem?_cons_zero]at g3;by_cases az:k<b.apart.length
  .obtain⟨⟨blk,off,sp⟩,⟨xa,xb⟩,rfl,hx,x0,x1⟩:=H3.o.1.elem H3.o.2 az;obtain rfl:sp=none:=x0.1;have HX:=hid hx;have y0:=(x0.later (Kp.boxed hB.o)).2;have y1:=(x1.later (Kp.boxed hB.o)).2;simp only[<-Nat.add_assoc]at y0 y1;have lH:w.heap.size+1<=wr.heap.size:=by have:=hB.o.size;simp at this;omega
   have HZ:=hid lH;clear x0 x1 hx;by_cases e:vC (xa,xb) p q
   .have hm:=List.mem_of_getElem? HX.o;rcases(show xa=p/\xb=q\/xa=q/\xb=p from e)with⟨rfl,rfl⟩|⟨rfl,rfl⟩
    .go_wp2
     go_ret;exact dF.mk (.yes ⟨_,hm,.inl ⟨rfl,rfl⟩⟩) (Below.one (Below.boxed hB.o) (by omega) _ 0)
    .by_cases e3:xa=xb
     .subst e3;go_wp2
      go_ret;exact dF.mk (.yes ⟨_,hm,.inl ⟨rfl,rfl⟩⟩) (Below.one (Below.boxed hB.o) (by omega) _ 0)
     .go_wp2
      go_ret;exact dF.mk (.yes ⟨_,hm,.inr ⟨rfl,rfl⟩⟩) (Below.one (Below.boxed hB.o) (by omega) _ 0)
   .have HE:=hid e;have e1:¬(xa=p/\xb=q):=fun h=>e (.inl h);have e2:¬(xa=q/\xb=p):=fun h=>e (.inr h);clear e;by_cases a1:xa=p
    .subst a1;have a2:¬xb=q:=fun h=>e1 ⟨rfl,h⟩;clear e1;by_cases a3:xa=q
     .subst a3;clear e2;go_wp2
      go_round
      case rel=>exact⟨k+1,by omega,hN.o.succ HX.o HE.o,by go_num,Below.one hB.o HZ.o _ 0⟩
      case measure=>simp[intOf];omega
     .clear e2;go_wp2
      go_round
      case rel=>exact⟨k+1,by omega,hN.o.succ HX.o HE.o,by go_num,Below.one hB.o HZ.o _ 0⟩
      case measure=>simp[intOf];omega
    .clear e1;by_cases a3:xa=q
     .subst a3;have a4:¬xb=p:=fun h=>e2 ⟨rfl,h⟩;clear e2;go_wp2
      go_round
      case rel=>exact⟨k+1,by omega,hN.o.succ HX.o HE.o,by go_num,Below.one hB.o HZ.o _ 0⟩
      case measure=>simp[intOf];omega
     .clear e2;go_wp2
      go_round
      case rel=>exact⟨k+1,by omega,hN.o.succ HX.o HE.o,by go_num,Below.one hB.o HZ.o _ 0⟩
      case measure=>simp[intOf];omega
  .go_wp2
   go_ret;have e:k=b.apart.length:=by omega
   subst e;exact dF.mk (.no hN.o.all) (Below.boxed hB.o)
def ah (w0:World):Type:={w:World//Below w0.heap.size w0 w}
instance (w0 : World) : Nonempty (ah w0) := ⟨⟨w0, Below.refl _ _⟩⟩
theorem ah.cell (X:ah w0) {a:Addr} {v:Value} (h:w0.cell? a=some v):X.1.cell? a=some v:=by
 have hk:a.block<w0.heap.size:=by
  unfold World.cell? at h;split at h
  .rename_i hx;exact(Array.getElem?_eq_some_iff.1 hx).1
  .cases h
 exact(World.cell?_of_block (X.2.block _ hk)).trans h
theorem ah.kp (X:ah w0):Kp w0 X.1:=Kp.of X.2
theorem ah.on (X:ah w0) (h:Below X.1.heap.size X.1 w):∃Y:ah w0,w=Y.1:=⟨⟨w,X.2.trans (h.mono X.2.size)⟩,rfl⟩
theorem ah.same (X:ah w0) (h:w=X.1):∃Y:ah w0,w=Y.1:=⟨X,h⟩
theorem aj {P:Program} {id:Nat} {Q:Exit->Act->World->Prop} {a:Act} {l:List Oper} (hm:P.follows .mixedOrders=true) (hB:Region.lexB .any l.toArray=true)
 (h:wpQuiet P l.toArray (fun w'=>∃X:ah w,w'=X.1) (fun a'=>∀w',(∃X:ah w,w'=X.1)->Q .normal a' w') l a):(Code.region id l.toArray true).wp P Q a w:=
 wp_region_quiet (C:=fun w'=>∃X:ah w,w'=X.1) hm hB ⟨⟨_,Below.drewN (Below.refl _ w) 1⟩,rfl⟩ (by simpa using h)
def kH (l:List Int) (n:Int) (k:Nat):Prop:=∀(j:Nat) (x:Int),j<k->l[j]?=some x->0<=x/\x<=n-1
theorem kH.zero (l:List Int) (n:Int):kH l n 0:=fun j y h=>by omega
theorem kH.succ {l:List Int} {n x:Int} (h:kH l n k) (hy:l[k]?=some x) (bA:0<=x/\x<=n-1):kH l n (k+1):=fun j z hj hz=>by
 by_cases e:j=k
 .subst e;rw[hy]at hz;cases hz;exact bA
 .exact h j z (by omega) hz
structure Cf (b:an) (l:List Int) (j:Nat) (x:Int):Prop where
 fits:∃P,b.parts[x.toNat]?=some P/\(j:Int)∈P.fits
 PU:0<j->∀y,l[j-1]?=some y->¬Apart b.apart y x
def jU (b:an) (l:List Int) (k:Nat):Prop:=∀j x,j<k->l[j]?=some x->Cf b l j x
theorem jU.zero (b:an) (l:List Int):jU b l 0:=fun j y h=>by omega
theorem jU.succ {b:an} {l:List Int} {x:Int} (h:jU b l k) (hy:l[k]?=some x) (bA:Cf b l k x):jU b l (k+1):=fun j z hj hz=>by
 by_cases e:j=k
 .subst e;rw[hy]at hz;cases hz;exact bA
 .exact h j z (by omega) hz
structure eC (b:an) (l:List Int):Prop where
 len:(l.length:Int)=b.places
 range:kH l b.parts.length l.length
 fit:jU b l l.length
open Classical in
noncomputable def bp (b:an) (l:List Int):Int:=
 if(l.length:Int)=b.places then if kH l b.parts.length l.length then if jU b l l.length then 0 else 3 else 6 else 2
section
variable {b:an} {l:List Int}
theorem jD (h:¬(l.length:Int)=b.places):2=bp b l:=by unfold bp;rw[if_neg h]
theorem kI (h:(l.length:Int)=b.places) (h2:¬kH l b.parts.length l.length):6=bp b l:=by unfold bp;rw[if_pos h,if_neg h2]
theorem fA (h:(l.length:Int)=b.places) (h2:kH l b.parts.length l.length) (h3:¬jU b l l.length):3=bp b l:=by unfold bp;rw[if_pos h,if_pos h2,if_neg h3]
theorem kJ (h:eC b l):0=bp b l:=by unfold bp;rw[if_pos h.len,if_pos h.range,if_pos h.fit]
theorem ci:bp b l=0↔eC b l:=by
 refine⟨fun h=>?_,fun h=>(kJ h).symm⟩;by_cases h1:(l.length:Int)=b.places
 .by_cases h2:kH l b.parts.length l.length
  .by_cases h3:jU b l l.length
   .exact⟨h1,h2,h3⟩
   .rw[<-fA h1 h2 h3]at h;cases h
  .rw[<-kI h1 h2]at h;cases h
 .rw[<-jD h1]at h;cases h
end
structure mr (w:World) (g:Nat) (v0 v1 v2 v3 v4:Value):Prop where
 c0:w.cell? ⟨g,0,none⟩=some v0
 c1:w.cell? ⟨g,1,none⟩=some v1
 c2:w.cell? ⟨g,2,none⟩=some v2
 c3:w.cell? ⟨g,3,none⟩=some v3
 c4:w.cell? ⟨g,4,none⟩=some v4
theorem mr.of {w1:World} {v0 v1 v2 v3 v4:Value} (h:Below (w.heap.size+1) (w.alloc (.cells #[v0,v1,v2,v3,v4] 26)) w1):mr w1 w.heap.size v0 v1 v2 v3 v4:=
 ⟨boxed h 0,boxed h 1,boxed h 2,boxed h 3,boxed h 4⟩
theorem iG (w:World) (v vl:Value) (b:an) (l:List Int) (hb:aB w v b) (hl:ae w vl l):
 Calls ZP 56 #[v,vl] w (aT w fun s=>s=bp b l):=by
 have HB:=hid hb;obtain⟨v2,v3,v4,rfl,⟨a2,c2,h2,f2⟩,⟨a3,c3,⟨rfl,_,_,_,_⟩,_⟩,⟨a4,c4,⟨rfl,_,_,_,_⟩,_⟩⟩:=hb;obtain⟨al,cl,Ao,fl⟩:=hl;have H2:Hid (bB w v2 b.parts.length a2 c2/\_):=⟨h2,f2⟩
 have HL:Hid (bB w vl l.length al cl/\_):=⟨Ao,fl⟩
 obtain⟨rfl,l2,m2,n2,r2⟩:=h2;obtain⟨rfl,ll,ml,nl,rl⟩:=Ao;unfold maxLen at m2 ml;clear r2 f2 n2 rl fl nl;have fV:wrap64 ((b.parts.length:Int)-1)=b.parts.length-1:=by unfold wrap64;omega
 go_enter ZF56,Tryz.ntmps56
 by_cases hlen:(l.length:Int)=b.places
 case neg=>
  go_wp2
  go_ret;exact aT.mk (r:=2) (jD hlen) ((Below.refl _ _).alloc (Nat.le_refl _) _)
 have oF:=hid hlen;have bA:((l.length:Int)!=b.places)=false:=by simp[hlen]
 clear hlen;go_wp2
 go_loopw [5] (fun i w1=>∃k:Nat,k<=l.length/\Hid (kH l b.parts.length k)/\i=.int .i64 k/\Hid (Below (w.heap.size+1) (w.alloc (.cells #[.int .i64 b.ap,.int .i64 b.places,.slice a2 b.parts.length c2,.slice a3 b.apart.length c3,.slice a4 b.aa.length c4] 26)) w1)) (fun i _=>l.length-(intOf i).toNat)
 case atStart=>exact⟨0,Nat.zero_le _,.zero _ _,rfl,Below.refl _ _⟩
 case round=>
  obtain⟨k,hk,hN,rfl,hB⟩:=hrel;obtain⟨g0,g1,g2,g3,g4⟩:=mr.of hB.o;by_cases az:k<l.length
  .obtain⟨⟨blk,off,sp⟩,x,rfl,hx,x0⟩:=HL.o.1.elem HL.o.2 az;obtain rfl:sp=none:=x0.1;have HX:=hid hx;have y0:=(x0.later (Kp.boxed hB.o)).2;simp only at y0;have pR:(k:Int)<(l.length:Int):=by omega
   clear x0 hx;by_cases e:0<=x/\x<=(b.parts.length:Int)-1
   .have HE:=hid e;have hd:(decide (0<=x)&&decide (x<=(b.parts.length:Int)-1))=true:=by simpa using e
    clear e;go_wp2
    go_quiet ((go_at_call 68;exact(mj _ _ _ _).mono fun e w' h=>⟨h.1.trans (by rw[hd]),_,h.2⟩))
    go_wp2
    go_round
    case rel=>exact⟨k+1,by omega,hN.o.succ HX.o HE.o,by go_num,Below.drewN hB.o _⟩
    case measure=>simp[intOf];omega
   .have HE:=hid e
    have hd:(decide (0<=x)&&decide (x<=(b.parts.length:Int)-1))=false:=by
     cases hh:(decide (0<=x)&&decide (x<=(b.parts.length:Int)-1))with
     |false=>rfl
     |true=>exact absurd (by simpa using hh) e
    clear e;go_wp2
    go_quiet ((go_at_call 68;exact(mj _ _ _ _).mono fun e w' h=>⟨h.1.trans (by rw[hd]),_,h.2⟩))
    go_wp2
    go_ret;exact aT.mk (r:=6) (kI oF.o fun h=>HE.o (h k x az HX.o)) (Below.drewN (Below.boxed hB.o) _)
  .have HN:Hid (kH l b.parts.length l.length):=(by have e:k=l.length:=by omega
                                                   subst e;exact hN.o)
   clear hN;go_wp2
   go_loopw [6] (fun i w1=>∃k:Nat,k<=l.length/\Hid (jU b l k)/\i=.int .i64 k/\Hid (Below (w.heap.size+1) (w.alloc (.cells #[.int .i64 b.ap,.int .i64 b.places,.slice a2 b.parts.length c2,.slice a3 b.apart.length c3,.slice a4 b.aa.length c4] 26)) w1)) (fun i _=>l.length-(intOf i).toNat)
   case atStart=>exact⟨0,Nat.zero_le _,.zero _ _,rfl,hB.o⟩
   case round=>
    clear g0 g1 g2 g3 g4 hB az hk;obtain⟨k,hk,hN,rfl,hB⟩:=hrel;have gg:=mr.of hB.o;by_cases az:k<l.length
    .obtain⟨⟨blk,off,sp⟩,x,rfl,hx,x0⟩:=HL.o.1.elem HL.o.2 az;obtain rfl:sp=none:=x0.1;obtain⟨xn,rfl⟩:=Int.eq_ofNat_of_zero_le (HN.o k x az hx).1;have hxr:=(HN.o k xn az hx).2;have Bl:xn<b.parts.length:=by omega
     obtain⟨⟨pb,po,ps⟩,P,rfl,hP,_,_,_,_,_,vf,p5,Ir⟩:=H2.o.1.elem H2.o.2 Bl;obtain rfl:ps=none:=p5.1;have hf:=Ir;obtain⟨af,cf,⟨rfl,_,_,_,_⟩,_⟩:=Ir;have HX:Hid (l[k]?=some (xn:Int)/\b.parts[xn]?=some P):=⟨hx,hP⟩
     have G0:=fun X:ah wr=>X.cell gg.c0;have G1:=fun X:ah wr=>X.cell gg.c1;have G2:=fun X:ah wr=>X.cell gg.c2;have G3:=fun X:ah wr=>X.cell gg.c3;have G4:=fun X:ah wr=>X.cell gg.c4;have Y0:=fun X:ah wr=>X.cell (x0.later (Kp.boxed hB.o)).2;have Y5:=fun X:ah wr=>X.cell (p5.later (Kp.boxed hB.o)).2;simp only[<-Nat.add_assoc]at Y0 Y5;have pR:(k:Int)<(l.length:Int):=by omega
     have XP:(xn:Int)<(b.parts.length:Int):=by omega
     have hz:Hid (w.heap.size+1<=wr.heap.size):=by have:=hB.o.size;simp at this;exact(by omega:w.heap.size+1<=wr.heap.size)
     clear x0 hx hP p5 gg
     have pV:∀X:ah wr,Calls ZP 108 #[.slice af P.fits.length cf,.int .i64 k] X.1 (fun e gI=>e=.returned (.bool (decide ((k:Int)∈P.fits)))/\∃Y:ah wr,gI=Y.1):=fun X=>
      (Cd _ _ _ _ ((hf.later (Kp.boxed hB.o)).later X.kp)).mono fun e w' h=>⟨h.1,X.same h.2⟩
     by_cases kK:(k:Int)∈P.fits
     .have HF:Hid (∃P,b.parts[((xn:Int)).toNat]?=some P/\(k:Int)∈P.fits):=⟨P,by simpa using HX.o.2,kK⟩
      rw[decide_eq_true kK]at pV;clear kK;by_cases oU:0<k
      .obtain⟨b',z,vB,LW,z0⟩:=HL.o.1.elem HL.o.2 (show k-1<l.length by omega);cases vB;have Z0:=fun X:ah wr=>X.cell (z0.later (Kp.boxed hB.o)).2;simp only at Z0;have HZ:Hid (l[k-1]?=some z):=LW;have lD:wrap64 ((k:Int)-1)=((k-1:Nat):Int):=by unfold wrap64;omega
       have pw:(0:Int)<(k:Int):=by omega
       have me:((k-1:Nat):Int)<(l.length:Int):=by omega
       clear z0 LW
       have ji:∀X:ah wr,Calls ZP 109 #[.agg #[.int .i64 b.ap,.int .i64 b.places,.slice (some ⟨pb,po,none⟩) b.parts.length c2,.slice a3 b.apart.length c3,.slice a4 b.aa.length c4],.int .i64 z,.int .i64 xn] X.1 (fun e gI=>(∃r,e=.returned (.bool r)/\Tr r (Apart b.apart z xn))/\∃Y:ah wr,gI=Y.1):=fun X=>
        (kG _ _ _ _ _ ((HB.o.later (Kp.boxed hB.o)).later X.kp)).mono fun e w' h=>⟨h.1,X.on h.2⟩
       by_cases lI:Apart b.apart z xn
       .have HA:=hid lI
        have ji:∀X:ah wr,Calls ZP 109 #[.agg #[.int .i64 b.ap,.int .i64 b.places,.slice (some ⟨pb,po,none⟩) b.parts.length c2,.slice a3 b.apart.length c3,.slice a4 b.aa.length c4],.int .i64 z,.int .i64 xn] X.1 (fun e gI=>e=.returned (.bool true)/\∃Y:ah wr,gI=Y.1):=fun X=>
         (ji X).mono fun e w' ⟨⟨r,h1,h2⟩,h3⟩=>⟨by rw[h1,h2.2 lI],h3⟩
        clear lI;go_wp2
        refine aj (by kernel_rfl) (by kernel_rfl) ?_;repeat(go_big_quiet_step (first|(go_at_call 108;exact pV _)|(go_at_call 109;exact ji _)))
        refine wpQuiet_nil ?_;rintro _ ⟨X,rfl⟩;go_wp2
        go_ret;exact aT.mk (r:=3) (fA oF.o HN.o fun h=>(h k _ az HX.o.1).PU oU z HZ.o HA.o) ((Below.boxed hB.o).trans (X.2.mono (Nat.le_trans (Nat.le_succ _) hz.o)))
       .have HA:Hid (Cf b l k xn):=⟨HF.o,fun _ y hy=>by rw[HZ.o]at hy;cases hy;exact lI⟩
        have ji:∀X:ah wr,Calls ZP 109 #[.agg #[.int .i64 b.ap,.int .i64 b.places,.slice (some ⟨pb,po,none⟩) b.parts.length c2,.slice a3 b.apart.length c3,.slice a4 b.aa.length c4],.int .i64 z,.int .i64 xn] X.1 (fun e gI=>e=.returned (.bool false)/\∃Y:ah wr,gI=Y.1):=fun X=>
         (ji X).mono fun e w' ⟨⟨r,h1,h2⟩,h3⟩=>⟨by cases r with
           |false=>exact h1
           |true=>exact absurd h2.t lI,h3⟩
        clear lI;go_wp2
        refine aj (by kernel_rfl) (by kernel_rfl) ?_;repeat(go_big_quiet_step (first|(go_at_call 108;exact pV _)|(go_at_call 109;exact ji _)))
        refine wpQuiet_nil ?_;rintro _ ⟨X,rfl⟩;go_wp2
        go_round
        case rel=>exact⟨k+1,by omega,hN.o.succ HX.o.1 HA.o,by go_num,hB.o.trans (X.2.mono hz.o)⟩
        case measure=>simp[intOf];omega
      .have HA:Hid (Cf b l k xn):=⟨HF.o,fun h=>absurd h oU⟩
       have pw:¬(0:Int)<(k:Int):=by omega
       go_wp2
       refine aj (by kernel_rfl) (by kernel_rfl) ?_;repeat(go_big_quiet_step (first|(go_at_call 108;exact pV _)))
       refine wpQuiet_nil ?_;rintro _ ⟨X,rfl⟩;go_wp2
       go_round
       case rel=>exact⟨k+1,by omega,hN.o.succ HX.o.1 HA.o,by go_num,hB.o.trans (X.2.mono hz.o)⟩
       case measure=>simp[intOf];omega
     .have HF:=hid kK;rw[decide_eq_false kK]at pV;clear kK;go_wp2
      refine aj (by kernel_rfl) (by kernel_rfl) ?_;repeat(go_big_quiet_step (first|(go_at_call 108;exact pV _)))
      refine wpQuiet_nil ?_;rintro _ ⟨X,rfl⟩;go_wp2
      go_ret
      exact aT.mk (r:=3) (fA oF.o HN.o fun h=>by
       obtain⟨P',Pw,hm⟩:=(h k _ az HX.o.1).fits;simp only[Int.toNat_natCast]at Pw;rw[HX.o.2]at Pw;cases Pw;exact HF.o hm) ((Below.boxed hB.o).trans (X.2.mono (Nat.le_trans (Nat.le_succ _) hz.o)))
    .go_wp2
     go_ret;have e:k=l.length:=by omega
     subst e;exact aT.mk (r:=0) (kJ ⟨oF.o,HN.o,hN.o⟩) (Below.boxed hB.o)
theorem oG (w:World) (v vl:Value) (b:an) (l:List Int) (hb:aB w v b) (hl:ae w vl l) (hp:1<=b.parts.length/\b.parts.length<=5):
 Calls ZP 56 #[v,vl] w (aT w fun s=>s=bp b l):=
 iG w v vl b l hb hl
end Go.Proofs.Cz
namespace Go.Proofs.Cz
open Go.RowKit
structure qo (b:an) (t:jT):Prop where
 XQ:eC b t.parts
 XR:0<=t.lo/\t.lo<=t.hi/\t.hi<=99
def yd (b:an) (k:Nat):Prop:=∀j t,j<k->b.aa[j]?=some t->qo b t
structure Valid (b:an):Prop where
 ap:1<=b.ap/\b.ap<=99
 places:1<=b.places/\b.places<=4
 parts:vz b
 jg:fy b
 many:b.aa.length<=4
 aa:yd b b.aa.length
end Go.Proofs.Cz
namespace Go.RowKit
theorem Below.iH {w w1:World} {o:Obj} (h:Below (w.alloc o).heap.size (w.alloc o) w1):Below (w.heap.size+1) (w.alloc o) w1:=by simpa using h
end Go.RowKit
namespace Go.Proofs.Cz
open Go.RowKit
end Go.Proofs.Cz
namespace Go.RowKit
theorem Below.ny {w w1 w2:World} {o:Obj} (h:Below (w.alloc o).heap.size (w.alloc o) w1) (k:Below w1.heap.size w1 w2):Below (w.heap.size+1) (w.alloc o) w2:=Below.iH (h.trans (k.mono h.size))
end Go.RowKit
namespace Go.Proofs.Cz
open Go.RowKit
end Go.Proofs.Cz
namespace Go.Proofs.Cz
open Go.RowKit
variable {b:an} {t:jT}
open Classical in
noncomputable def cy (n:Int) (l:List (Int×Int)) (k:Nat):Int:=match l[k]? with
 |none=>0
 |some x=>if(0<=x.1/\x.1<=n-1)/\0<=x.2/\x.2<=n-1 then(if x.1<=x.2 then(if∃i,i<k/\l[i]?=some x then 5 else 0)else 7)else 6
noncomputable def bi (n:Int) (l:List (Int×Int)):Int:=if l.length<=5 then scan (cy n l) l.length else 2
section
variable {n:Int} {l:List (Int × Int)} {k:Nat} {x:Int × Int}
theorem vD (hx:l[k]?=some x) (h:¬((0<=x.1/\x.1<=n-1)/\0<=x.2/\x.2<=n-1)):cy n l k=6:=by unfold cy;rw[hx];simp only;rw[if_neg h]
theorem GC (hx:l[k]?=some x) (h:(0<=x.1/\x.1<=n-1)/\0<=x.2/\x.2<=n-1) (h2:¬x.1<=x.2):cy n l k=7:=by unfold cy;rw[hx];simp only;rw[if_pos h,if_neg h2]
theorem GD (hx:l[k]?=some x) (h:rH n x) {i:Nat} (hi:i<k) (hy:l[i]?=some x):cy n l k=5:=by unfold cy;rw[hx];simp only;rw[if_pos ⟨h.one,h.two⟩,if_pos h.le,if_pos ⟨i,hi,hy⟩]
theorem AB (hx:l[k]?=some x) (h:rH n x) (h2:gA l x k):cy n l k=0:=by unfold cy;rw[hx];simp only;rw[if_pos ⟨h.one,h.two⟩,if_pos h.le,if_neg (fun⟨i,hi,hy⟩=>h2 i x hi hy rfl)]
theorem rI (hm:l.length<=5):bi n l=scan (cy n l) l.length:=by unfold bi;rw[if_pos hm]
theorem ig:bi b.parts.length b.apart=0↔fy b:=by
 unfold bi;constructor
 .intro h;split at h
  .rename_i hm;refine⟨hm,fun j x hj hx=>?_⟩;have h1:=eh.1 h j hj;unfold cy at h1;rw[hx]at h1;simp only at h1;split at h1
   .rename_i h2;split at h1
    .rename_i h3;split at h1
     .cases h1
     .rename_i h4;exact⟨⟨h2.1,h2.2,h3⟩,fun i y hi hy e=>h4 ⟨i,hi,by rw[<-e];exact hy⟩⟩
    .cases h1
   .cases h1
  .cases h
 .intro h;rw[if_pos h.many,eh];intro j hj;have hx:b.apart[j]?=some b.apart[j]:=List.getElem?_eq_getElem hj;have h1:=h.all j _ hj hx;exact AB hx h1.1 h1.2
end
theorem eU:aU b.places b.parts=0↔vz b:=by
 unfold aU;constructor
 .intro h;split at h
  .rename_i hm;refine⟨hm,fun j x hj hx=>?_⟩;have h1:=eh.1 h j hj;unfold bE at h1;rw[hx]at h1;simp only at h1;split at h1
   .rename_i h2;split at h1
    .cases h1
    .rename_i h3;split at h1
     .rename_i h4;exact⟨⟨h2,h4.1,h4.2.1,h4.2.2.1,h4.2.2.2,pz.1 h1⟩,fun i y hi hy e=>h3 ⟨i,y,hi,hy,e⟩⟩
     .cases h1
   .cases h1
  .cases h
 .intro h;rw[if_pos h.many,eh];intro j hj;have hx:b.parts[j]?=some b.parts[j]:=List.getElem?_eq_getElem hj;have h1:=h.all j _ hj hx;rw[vA hx h1.1.name h1.2 ⟨h1.1.cost,h1.1.fF,h1.1.time,h1.1.wide⟩];exact pz.2 h1.1.XO
noncomputable def cj (b:an) (k:Nat):Int:=match b.aa[k]? with
 |none=>0
 |some t=>if bp b t.parts=0 then(if 0<=t.lo/\t.lo<=t.hi/\t.hi<=99 then 0 else 1)else bp b t.parts
noncomputable def cz (b:an):Int:=if b.aa.length<=4 then scan (cj b) b.aa.length else 2
theorem vE {k:Nat} (hx:b.aa[k]?=some t) (h:qo b t):cj b k=0:=by unfold cj;rw[hx];simp only;rw[if_pos (ci.2 h.XQ),if_pos h.XR]
theorem Cg {k:Nat} (hx:b.aa[k]?=some t) (h:eC b t.parts) (h2:¬(0<=t.lo/\t.lo<=t.hi/\t.hi<=99)):cj b k=1:=by unfold cj;rw[hx];simp only;rw[if_pos (ci.2 h),if_neg h2]
theorem Ch {k:Nat} (hx:b.aa[k]?=some t) (h:bp b t.parts≠0):cj b k=bp b t.parts:=by unfold cj;rw[hx];simp only;rw[if_neg h]
theorem pB (hm:b.aa.length<=4):cz b=scan (cj b) b.aa.length:=by unfold cz;rw[if_pos hm]
theorem pC:cz b=0↔b.aa.length<=4/\yd b b.aa.length:=by
 unfold cz;constructor
 .intro h;split at h
  .rename_i hm;refine⟨hm,fun j t hj ht=>?_⟩;have h1:=eh.1 h j hj;unfold cj at h1;rw[ht]at h1;simp only at h1;split at h1
   .rename_i h2;split at h1
    .rename_i h3;exact⟨ci.1 h2,h3⟩
    .cases h1
   .rename_i h2;exact absurd h1 h2
  .cases h
 .rintro⟨hm,h⟩;rw[if_pos hm,eh];intro j hj;have hx:b.aa[j]?=some b.aa[j]:=List.getElem?_eq_getElem hj;exact vE hx (h j _ hj hx)
noncomputable def aK (b:an):Int:=
 if(1<=b.ap/\b.ap<=99)/\1<=b.places/\b.places<=4 then
  (if aU b.places b.parts=0 then(if bi b.parts.length b.apart=0 then cz b else bi b.parts.length b.apart)else aU b.places b.parts)
 else 1
theorem ck:aK b=0↔Valid b:=by
 unfold aK;constructor
 .intro h;split at h
  .rename_i h1;split at h
   .rename_i h2;split at h
    .rename_i h3;have h4:=pC.1 h;exact⟨h1.1,h1.2,eU.1 h2,ig.1 h3,h4.1,h4.2⟩
    .rename_i h3;exact absurd h h3
   .rename_i h2;exact absurd h h2
  .cases h
 .intro h;rw[if_pos ⟨h.ap,h.places⟩,if_pos (eU.2 h.parts),if_pos (ig.2 h.jg),pC];exact⟨h.many,h.aa⟩
theorem pW (w:World) (v:Value) (b:an) (hb:aB w v b) (hp:1<=b.parts.length/\b.parts.length<=5):
 Calls ZP 71 #[v] w (aT w fun s=>s=bi b.parts.length b.apart):=by
 obtain⟨v2,v3,v4,rfl,⟨a2,c2,h2,f2⟩,⟨a3,c3,h3,f3⟩,h4⟩:=hb;have H3:Hid (bB w v3 b.apart.length a3 c3/\_):=⟨h3,f3⟩
 obtain⟨rfl,l2,m2,n2,r2⟩:=h2;obtain⟨rfl,l3,m3,n3,r3⟩:=h3;unfold maxLen at m2 m3;clear r2 f2 n2 r3 f3 n3 h4;have fV:wrap64 ((b.parts.length:Int)-1)=b.parts.length-1:=by unfold wrap64;omega
 go_enter ZF71,Tryz.ntmps71
 go_wp2
 .rename_i hm;go_ret;exact aT.mk (r:=2) (by unfold bi;rw[if_neg (by omega)]) ((Below.refl _ _).alloc (Nat.le_refl _) _)
 rename_i hm;have nu:Hid (bi b.parts.length b.apart=scan (cy b.parts.length b.apart) b.apart.length):=rI (by omega);go_loopw [3] (fun i w1=>∃k:Nat,k<=b.apart.length/\Hid (scan (cy b.parts.length b.apart) k=0)/\i=.int .i64 k/\Hid (Below (w.heap.size+1) (w.alloc (.cells #[.int .i64 b.ap,.int .i64 b.places,.slice a2 b.parts.length c2,.slice a3 b.apart.length c3,v4] 26)) w1)) (fun i _=>b.apart.length-(intOf i).toNat)
 case atStart=>exact⟨0,Nat.zero_le _,rfl,rfl,Below.refl _ _⟩
 case round=>
  obtain⟨k,hk,hN,rfl,hB⟩:=hrel;have g2:=boxed hB.o 2;have g3:=boxed hB.o 3;simp only[List.getElem?_toArray,List.getElem?_cons_succ,List.getElem?_cons_zero]at g2 g3;by_cases az:k<b.apart.length
  .obtain⟨⟨blk,off,sp⟩,⟨xa,xb⟩,rfl,hx,x0,x1⟩:=H3.o.1.elem H3.o.2 az;obtain rfl:sp=none:=x0.1;have HX:=hid hx;have y0:=(x0.later (Kp.boxed hB.o)).2;have y1:=(x1.later (Kp.boxed hB.o)).2;simp only[<-Nat.add_assoc]at y0 y1;have lH:w.heap.size+1<=wr.heap.size:=by have:=hB.o.size;simp at this;omega
   have oz:blk<w.heap.size:=x0.lt;have Qq:∀o,(wr.alloc o).cell? ⟨w.heap.size,2,none⟩=some (.slice a2 b.parts.length c2):=fun o=>(ee (by show w.heap.size<_;omega) o).trans g2;have g3':∀o,(wr.alloc o).cell? ⟨w.heap.size,3,none⟩=some (.slice (some ⟨blk,off,none⟩) b.apart.length c3):=fun o=>(ee (by show w.heap.size<_;omega) o).trans g3;clear x0 x1 hx;go_wp2_with(go_at_call 68;refine(Kg _ _ _ _).mono ?_;rintro e w' ⟨r,rfl,hr,rfl⟩;cases r)
   .go_ret;exact aT.mk (r:=6) (nu.o.trans (aG hN.o (vD HX.o fun h=>hr.f h.1) (by decide) az)).symm (Below.one (Below.boxed hB.o) (by omega) _ 0)
   .go_ret;exact aT.mk (r:=6) (nu.o.trans (aG hN.o (vD HX.o fun h=>hr.f h.2) (by decide) az)).symm (Below.one (Below.boxed hB.o) (by omega) _ 0)
   .rename_i tz;go_ret;rename_i qf;exact aT.mk (r:=7) (nu.o.trans (aG hN.o (GC HX.o ⟨Tr.t (by assumption),hr.t⟩ (by simp only;omega)) (by decide) az)).symm (Below.one (Below.boxed hB.o) (by omega) _ 0)
   rename_i qf hle;have HK:Hid (rH b.parts.length (xa,xb)):=⟨qf.t,hr.t,hle⟩
   have HL:=hid az;clear hr qf hle;go_loopw [5] (fun i w2=>∃m:Nat,m<=k/\Hid (gA b.apart (xa,xb) m)/\i=.int .i64 m/\∃n,w2=(wr.alloc (.cells #[.int .i64 xa,.int .i64 xb] 111)).drewN n) (fun i _=>k-(intOf i).toNat)
   case atStart=>exact⟨0,Nat.zero_le _,.zero _ _,rfl,0,rfl⟩
   case round=>
    obtain⟨m,Sk,hM,rfl,n0,rfl⟩:=hrel;by_cases iv:m<k
    .obtain⟨b',⟨ya,yb⟩,vB,hy,z0,z1⟩:=H3.o.1.elem H3.o.2 (show m<b.apart.length by have:=HL.o;omega);cases vB;have q0:=((z0.later (Kp.boxed hB.o)).later (Kp.alloc wr (.cells #[.int .i64 xa,.int .i64 xb] 111))).2;have q1:=((z1.later (Kp.boxed hB.o)).later (Kp.alloc wr (.cells #[.int .i64 xa,.int .i64 xb] 111))).2;simp only[<-Nat.add_assoc]at q0 q1;have HY:=hid hy;have Sn:(m:Int)<(k:Int):=by omega
     have GA:(m:Int)<(b.apart.length:Int):=by omega
     clear hy z0 z1;have hB1:=Below.one (Below.boxed hB.o) (by omega) (.cells #[.int .i64 xa,.int .i64 xb] 111);have ew:=hid hB1;clear hB1;by_cases e1:ya=xa
     .by_cases e2:yb=xb
      .subst e1 e2;go_wp2
       go_quiet (fail)
       go_wp2
       go_ret;exact aT.mk (r:=5) (nu.o.trans (aG hN.o (GD HX.o HK.o iv HY.o) (by decide) HL.o)).symm (Below.drewN (ew.o _) _)
      .subst e1;have bA:Hid ((ya,yb)≠(ya,xb)):=(fun h=>e2 (by cases h;rfl):(ya,yb)≠(ya,xb))
       go_wp2
       go_quiet (fail)
       go_wp2
       go_round
       case rel=>exact⟨m+1,by omega,hM.o.succ HY.o bA.o,by go_num,_,rfl⟩
       case measure=>simp[intOf];omega
     .have bA:Hid ((ya,yb)≠(xa,xb)):=(fun h=>e1 (by cases h;rfl):(ya,yb)≠(xa,xb))
      go_wp2
      go_quiet (fail)
      go_wp2
      go_round
      case rel=>exact⟨m+1,by omega,hM.o.succ HY.o bA.o,by go_num,_,rfl⟩
      case measure=>simp[intOf];omega
    .have HM:Hid (gA b.apart (xa,xb) k):=(by have e:m=k:=by omega
                                             subst e;exact hM.o)
     go_wp2
     go_round
     case rel=>exact⟨k+1,by omega,fw hN.o (AB HX.o HK.o HM.o),by go_num,Below.one hB.o (by omega) _ _⟩
     case measure=>simp[intOf];omega
  .go_wp2
   go_ret;have e:k=b.apart.length:=by omega
   subst e;exact aT.mk (r:=0) (nu.o.trans hN.o).symm (Below.boxed hB.o)
theorem eG (w:World) (v:Value) (b:an) (hb:aB w v b) (hs:di b):
 Calls ZP 21 #[v] w (aT w fun s=>s=aK b):=by
 have HB:=hid hb;obtain⟨v2,v3,v4,rfl,⟨a2,c2,⟨rfl,_,_,_,_⟩,_⟩,⟨a3,c3,⟨rfl,_,_,_,_⟩,_⟩,⟨a4,c4,h4,f4⟩⟩:=hb;have H4:Hid (bB w v4 b.aa.length a4 c4/\_):=⟨h4,f4⟩
 obtain⟨rfl,l4,m4,n4,r4⟩:=h4;unfold maxLen at m4;clear r4 f4 n4;go_enter ZF21,Tryz.ntmps21
 have ew:=HB.o.later (Kp.alloc w (.cells #[.int .i64 b.ap,.int .i64 b.places,.slice a2 b.parts.length c2,.slice a3 b.apart.length c3,.slice a4 b.aa.length c4] 26))
 go_wp2_with(first
  |(go_at_call 68;refine(Kg _ _ _ _).mono ?_;rintro e w' ⟨r,rfl,hr,rfl⟩;cases r)
  |(go_at_call 70;refine(pU _ _ _ ew hs hr.t).mono ?_;rintro e w1 ⟨⟨r,rfl,hr4⟩,J7⟩;have Px:Hid (r=aU b.places b.parts):=hr4;clear hr4;by_cases Py:r=0;obtain⟨g0,g1,g2,g3,g4⟩:=mr.of J7.iH)
  |(go_at_call 71;refine(pW _ _ _ (HB.o.later (Kp.boxed J7.iH)) (eU.1 (Px.o.symm.trans Py)).many).mono ?_;rintro e w2 ⟨⟨r2,rfl,RY⟩,sx⟩;have Uq:Hid (r2=bi b.parts.length b.apart):=RY;clear RY;by_cases Ur:r2=0;obtain⟨q0,q1,q2,q3,q4⟩:=mr.of (J7.ny sx)))
 .go_ret;exact aT.mk (r:=1) (by unfold aK;rw[if_neg fun h=>hr.f h.1]) ((Below.refl _ _).alloc (Nat.le_refl _) _)
 .go_ret;exact aT.mk (r:=1) (by unfold aK;rw[if_neg fun h=>hr.f h.2]) ((Below.refl _ _).alloc (Nat.le_refl _) _)
 .rename_i Wu;go_ret;exact aT.mk (r:=2) (by unfold aK cz;rw[if_pos ⟨Tr.t (by assumption),hr.t⟩,if_pos (Px.o.symm.trans Py),if_pos (Uq.o.symm.trans Ur),if_neg (by omega)]) (Below.boxed (J7.ny sx))
 .have HV:Hid ((1<=b.ap/\b.ap<=99)/\(1<=b.places/\b.places<=4)/\vz b/\fy b/\b.aa.length<=4):=by
   exact⟨Tr.t (by assumption),hr.t,eU.1 (Px.o.symm.trans Py),ig.1 (Uq.o.symm.trans Ur),by omega⟩
  have LO:aK b=scan (cj b) b.aa.length:=by
   unfold aK;rw[if_pos ⟨HV.o.1,HV.o.2.1⟩,if_pos (eU.2 HV.o.2.2.1),if_pos (ig.2 HV.o.2.2.2.1),pB HV.o.2.2.2.2]
  have XS:=hid LO;clear LO;have Is:Hid (Below (w.heap.size+1) (w.alloc (.cells #[.int .i64 b.ap,.int .i64 b.places,.slice a2 b.parts.length c2,.slice a3 b.apart.length c3,.slice a4 b.aa.length c4] 26)) w2):=J7.ny sx;clear hr J7 sx Py Ur q0 q1 q2 q3 q4 g0 g1 g2 g3 g4;go_loopw [5] (fun i w1=>∃k:Nat,k<=b.aa.length/\Hid (scan (cj b) k=0)/\i=.int .i64 k/\Hid (Below (w.heap.size+1) (w.alloc (.cells #[.int .i64 b.ap,.int .i64 b.places,.slice a2 b.parts.length c2,.slice a3 b.apart.length c3,.slice a4 b.aa.length c4] 26)) w1)) (fun i _=>b.aa.length-(intOf i).toNat)
  case atStart=>exact⟨0,Nat.zero_le _,rfl,rfl,Is⟩
  case round=>
   obtain⟨k,hk,hN,rfl,hB⟩:=hrel;have gg:=mr.of hB.o;by_cases az:k<b.aa.length
   .obtain⟨⟨blk,off,sp⟩,t,rfl,hx,⟨vf,x0,hf⟩,x1,x2⟩:=H4.o.1.elem H4.o.2 az;obtain rfl:sp=none:=x0.1;have Bs:=hf;obtain⟨af,cf,⟨rfl,_,_,_,_⟩,_⟩:=hf;have HX:=hid hx;obtain⟨s0,s1,s2,s3,s4⟩:=gg;have G0:=fun X:ah wr=>X.cell s0;have G1:=fun X:ah wr=>X.cell s1;have G2:=fun X:ah wr=>X.cell s2;have G3:=fun X:ah wr=>X.cell s3;have G4:=fun X:ah wr=>X.cell s4;have Y0:=fun X:ah wr=>X.cell (x0.later (Kp.boxed hB.o)).2;have Y1:=fun X:ah wr=>X.cell (x1.later (Kp.boxed hB.o)).2;have Y2:=fun X:ah wr=>X.cell (x2.later (Kp.boxed hB.o)).2;simp only[<-Nat.add_assoc]at Y0 Y1 Y2;have pR:(k:Int)<(b.aa.length:Int):=by omega
    have hz:Hid (w.heap.size+1<=wr.heap.size):=by have:=hB.o.size;simp at this;exact(by omega:w.heap.size+1<=wr.heap.size)
    have LX:∀X:ah wr,Calls ZP 56 #[.agg #[.int .i64 b.ap,.int .i64 b.places,.slice a2 b.parts.length c2,.slice a3 b.apart.length c3,.slice (some ⟨blk,off,none⟩) b.aa.length c4],.slice af t.parts.length cf] X.1 (fun e gI=>e=.returned (.int .i64 (bp b t.parts))/\∃Y:ah wr,gI=Y.1):=fun X=>
     (oG _ _ _ _ _ ((HB.o.later (Kp.boxed hB.o)).later X.kp) ((Bs.later (Kp.boxed hB.o)).later X.kp) HV.o.2.2.1.many).mono fun e w' ⟨⟨r,h1,h2⟩,h3⟩=>⟨by rw[h1,h2],X.on h3⟩
    clear Bs x0 x1 x2 hx;by_cases LY:bp b t.parts=0
    .have HM:Hid (eC b t.parts):=ci.1 LY;go_wp2
     refine aj (by kernel_rfl) (by kernel_rfl) ?_;repeat(go_big_quiet_step (first|(go_at_call 56;exact LX _)))
     refine wpQuiet_nil ?_;rintro _ ⟨X,rfl⟩;go_wp2_with(go_at_call 72;refine(rC _ _ _ _ _).mono ?_;rintro e w' ⟨r,rfl,hr,rfl⟩;cases r)
     .go_ret;exact aT.mk (r:=1) (XS.o.trans (aG hN.o (Cg HX.o HM.o hr.f) (by decide) az)).symm (Below.alloc ((Below.boxed hB.o).trans (X.2.mono (Nat.le_trans (Nat.le_succ _) hz.o))) (Nat.le_trans (Nat.le_trans (Nat.le_succ _) hz.o) X.2.size) _)
     .have HT:Hid (qo b t):=⟨HM.o,hr.t⟩
      clear hr;go_round
      case rel=>exact⟨k+1,by omega,fw hN.o (vE HX.o HT.o),by go_num,Below.alloc (hB.o.trans (X.2.mono hz.o)) (Nat.le_trans hz.o X.2.size) _⟩
      case measure=>simp[intOf];omega
    .have HM:Hid (¬eC b t.parts):=fun h=>LY (ci.2 h);go_wp2
     refine aj (by kernel_rfl) (by kernel_rfl) ?_;repeat(go_big_quiet_step (first|(go_at_call 56;exact LX _)))
     refine wpQuiet_nil ?_;rintro _ ⟨X,rfl⟩;go_wp2
     go_ret;exact aT.mk (XS.o.trans (aG hN.o (Ch HX.o LY) LY az)).symm ((Below.boxed hB.o).trans (X.2.mono (Nat.le_trans (Nat.le_succ _) hz.o)))
   .have ek:k=b.aa.length:=by omega
    subst ek;have HN:=hid hN;obtain⟨s0,s1,s2,s3,s4⟩:=gg;go_wp2
    go_ret;exact aT.mk (r:=0) (XS.o.trans HN.o).symm (Below.boxed hB.o)
 .go_ret;exact aT.mk (by unfold aK;rw[if_pos ⟨Tr.t (by assumption),hr.t⟩,if_pos (Px.o.symm.trans Py),if_neg (by rw[<-Uq.o];exact Ur)];exact Uq.o) (Below.boxed (J7.ny sx))
 .go_ret;exact aT.mk (by unfold aK;rw[if_pos ⟨Tr.t (by assumption),hr.t⟩,if_neg (by rw[<-Px.o];exact Py)];exact Px.o) (Below.boxed J7.iH)
end Go.Proofs.Cz
