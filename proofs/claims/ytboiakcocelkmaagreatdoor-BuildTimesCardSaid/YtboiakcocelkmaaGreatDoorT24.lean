/- A part. Conditions: none. -/
import Derived.Test.YtboiakcocelkmaaGreatDoorT23
import Derived.Laws.StructEq
set_option linter.all false
set_option maxHeartbeats 8000000
namespace Go.Proofs.Cz
open Go.RowKit
variable {k:Nat} {p q:Int} {w w0:World} {x:Int×Int}
@[go_sem] theorem QI:ZP.eqGuardType ZP.depth 111=false:=by kernel_rfl
structure sx (n:Int) (x:Int×Int):Prop where
 one:0<=x.1/\x.1<=n-1
 two:0<=x.2/\x.2<=n-1
 le:x.1<=x.2
def gP (l:List (Int×Int)) (x:Int×Int) (k:Nat):Prop:=∀j y,j<k->l[j]?=some y->y≠x
theorem gP.zero (l:List (Int×Int)) (x:Int×Int):gP l x 0:=fun j y h=>by omega
theorem gP.succ {l:List (Int×Int)} {y:Int×Int} (h:gP l x k) (hy:l[k]?=some y) (bJ:y≠x):gP l x (k+1):=fun j z hj hz=>by
 by_cases e:j=k
 .subst e;rw[hy]at hz;cases hz;exact bJ
 .exact h j z (by omega) hz
def MD (n:Int) (l:List (Int×Int)) (k:Nat):Prop:=∀j x,j<k->l[j]?=some x->sx n x/\gP l x j
structure fE (b:ao):Prop where
 many:b.apart.length<=5
 all:MD b.parts.length b.apart b.apart.length
def wM (x:Int×Int) (p q:Int):Prop:=x.1=p/\x.2=q\/x.1=q/\x.2=p
def Apart (l:List (Int×Int)) (p q:Int):Prop:=∃x∈l,wM x p q
def pZ (l:List (Int×Int)) (p q:Int) (k:Nat):Prop:=∀j x,j<k->l[j]?=some x->¬wM x p q
theorem pZ.zero (l:List (Int×Int)) (p q:Int):pZ l p q 0:=fun j y h=>by omega
theorem pZ.succ {l:List (Int×Int)} (h:pZ l p q k) (hy:l[k]?=some x) (bJ:¬wM x p q):pZ l p q (k+1):=fun j z hj hz=>by
 by_cases e:j=k
 .subst e;rw[hy]at hz;cases hz;exact bJ
 .exact h j z (by omega) hz
theorem pZ.all {l:List (Int×Int)} (h:pZ l p q l.length):¬Apart l p q:=fun⟨x,hm,hx⟩=>by
 obtain⟨j,hj,rfl⟩:=List.getElem_of_mem hm;exact h j _ hj (List.getElem?_eq_getElem hj) hx
theorem qa (w:World) (v:Value) (b:ao) (p q:Int) (hb:au w v b):
 Calls ZP 109 #[v,.int .i64 p,.int .i64 q] w (cZ w fun r=>Tr r (Apart b.apart p q)):=by
 obtain⟨v2,v3,v4,rfl,h2,⟨a3,c3,h3,f3⟩,h4⟩:=hb;have H3:Hid (bH w v3 b.apart.length a3 c3/\_):=⟨h3,f3⟩
 obtain⟨rfl,l3,m3,n3,r3⟩:=h3;obtain⟨a2,c2,⟨rfl,_,_,_,_⟩,_⟩:=h2;obtain⟨a4,c4,⟨rfl,_,_,_,_⟩,_⟩:=h4;unfold maxLen at m3;clear r3 f3 n3;go_enter ZF109,Tryz.ntmps109
 go_wp2
 go_loopw [7] (fun i w1=>∃k:Nat,k<=b.apart.length/\Hid (pZ b.apart p q k)/\i=.int .i64 k/\Hid (Below (w.heap.size+1) (w.alloc (.cells #[.int .i64 b.ak,.int .i64 b.places,.slice a2 b.parts.length c2,.slice a3 b.apart.length c3,.slice a4 b.ab.length c4] 26)) w1)) (fun i _=>b.apart.length-(intOf i).toNat)
 case atStart=>exact⟨0,Nat.zero_le _,.zero _ _ _,rfl,Below.refl _ _⟩
 case round=>
  obtain⟨k,hk,hN,rfl,hB⟩:=hrel;have g3:=boxed hB.o 3;simp only[List.getElem?_toArray,List.getElem?_cons_succ,List.getElem?_cons_zero]at g3;by_cases az:k<b.apart.length
  .obtain⟨⟨blk,off,sp⟩,⟨xa,xb⟩,rfl,hx,x0,x1⟩:=H3.o.1.elem H3.o.2 az;obtain rfl:sp=none:=x0.1;have HX:=hid hx;have y0:=(x0.later (Kp.boxed hB.o)).2;have y1:=(x1.later (Kp.boxed hB.o)).2;simp only[<-Nat.add_assoc]at y0 y1;have li:w.heap.size+1<=wr.heap.size:=by have:=hB.o.size;simp at this;omega
   have HZ:=hid li;clear x0 x1 hx;by_cases e:wM (xa,xb) p q
   .have hm:=List.mem_of_getElem? HX.o;rcases(show xa=p/\xb=q\/xa=q/\xb=p from e)with⟨rfl,rfl⟩|⟨rfl,rfl⟩
    .go_wp2
     go_ret;exact cZ.mk (.yes ⟨_,hm,.inl ⟨rfl,rfl⟩⟩) (Below.one (Below.boxed hB.o) (by omega) _ 0)
    .by_cases e3:xa=xb
     .subst e3;go_wp2
      go_ret;exact cZ.mk (.yes ⟨_,hm,.inl ⟨rfl,rfl⟩⟩) (Below.one (Below.boxed hB.o) (by omega) _ 0)
     .go_wp2
      go_ret;exact cZ.mk (.yes ⟨_,hm,.inr ⟨rfl,rfl⟩⟩) (Below.one (Below.boxed hB.o) (by omega) _ 0)
   .have HE:=hid e;have e1:¬(xa=p/\xb=q):=fun h=>e (.inl h);have e2:¬(xa=q/\xb=p):=fun h=>e (.inr h);clear e;by_cases a1:xa=p
    .subst a1;have a2:¬xb=q:=fun h=>e1 ⟨rfl,h⟩;clear e1;by_cases a3:xa=q
     .subst a3;clear e2;go_wp2
      go_round
      case rel=>exact⟨k+1,by omega,hN.o.succ HX.o HE.o,by go_num,Below.one hB.o HZ.o _ 0⟩
      case measure=>simp[intOf];omega
     .clear e2;go_wp2
      go_round
      case rel=>exact⟨k+1,by omega,hN.o.succ HX.o HE.o,by go_num,Below.one hB.o HZ.o _ 0⟩
      case measure=>simp[intOf];omega
    .clear e1;by_cases a3:xa=q
     .subst a3;have a4:¬xb=p:=fun h=>e2 ⟨rfl,h⟩;clear e2;go_wp2
      go_round
      case rel=>exact⟨k+1,by omega,hN.o.succ HX.o HE.o,by go_num,Below.one hB.o HZ.o _ 0⟩
      case measure=>simp[intOf];omega
     .clear e2;go_wp2
      go_round
      case rel=>exact⟨k+1,by omega,hN.o.succ HX.o HE.o,by go_num,Below.one hB.o HZ.o _ 0⟩
      case measure=>simp[intOf];omega
  .go_wp2
   go_ret;have e:k=b.apart.length:=by omega
   subst e;exact cZ.mk (.no hN.o.all) (Below.boxed hB.o)
def ai (w0:World):Type:={w:World//Below w0.heap.size w0 w}
instance (w0 : World) : Nonempty (ai w0) := ⟨⟨w0, Below.refl _ _⟩⟩
theorem ai.cell (X:ai w0) {a:Addr} {v:Value} (h:w0.cell? a=some v):X.1.cell? a=some v:=by
 have hk:a.block<w0.heap.size:=by
  unfold World.cell? at h;split at h
  .rename_i hx;exact(Array.getElem?_eq_some_iff.1 hx).1
  .cases h
 exact(World.cell?_of_block (X.2.block _ hk)).trans h
theorem ai.kp (X:ai w0):Kp w0 X.1:=Kp.of X.2
theorem ai.on (X:ai w0) (h:Below X.1.heap.size X.1 w):∃Y:ai w0,w=Y.1:=⟨⟨w,X.2.trans (h.mono X.2.size)⟩,rfl⟩
theorem ai.same (X:ai w0) (h:w=X.1):∃Y:ai w0,w=Y.1:=⟨X,h⟩
theorem am {P:Program} {id:Nat} {Q:Exit->Act->World->Prop} {a:Act} {l:List Oper} (hm:P.follows .mixedOrders=true) (hB:Region.lexB .any l.toArray=true)
 (h:wpQuiet P l.toArray (fun w'=>∃X:ai w,w'=X.1) (fun a'=>∀w',(∃X:ai w,w'=X.1)->Q .normal a' w') l a):(Code.region id l.toArray true).wp P Q a w:=
 wp_region_quiet (C:=fun w'=>∃X:ai w,w'=X.1) hm hB ⟨⟨_,Below.drewN (Below.refl _ w) 1⟩,rfl⟩ (by simpa using h)
def lu (l:List Int) (n:Int) (k:Nat):Prop:=∀(j:Nat) (x:Int),j<k->l[j]?=some x->0<=x/\x<=n-1
theorem lu.zero (l:List Int) (n:Int):lu l n 0:=fun j y h=>by omega
theorem lu.succ {l:List Int} {n x:Int} (h:lu l n k) (hy:l[k]?=some x) (bJ:0<=x/\x<=n-1):lu l n (k+1):=fun j z hj hz=>by
 by_cases e:j=k
 .subst e;rw[hy]at hz;cases hz;exact bJ
 .exact h j z (by omega) hz
structure DZ (b:ao) (l:List Int) (j:Nat) (x:Int):Prop where
 fits:∃P,b.parts[x.toNat]?=some P/\(j:Int)∈P.fits
 RG:0<j->∀y,l[j-1]?=some y->¬Apart b.apart y x
def kr (b:ao) (l:List Int) (k:Nat):Prop:=∀j x,j<k->l[j]?=some x->DZ b l j x
theorem kr.zero (b:ao) (l:List Int):kr b l 0:=fun j y h=>by omega
theorem kr.succ {b:ao} {l:List Int} {x:Int} (h:kr b l k) (hy:l[k]?=some x) (bJ:DZ b l k x):kr b l (k+1):=fun j z hj hz=>by
 by_cases e:j=k
 .subst e;rw[hy]at hz;cases hz;exact bJ
 .exact h j z (by omega) hz
structure dp (b:ao) (l:List Int):Prop where
 len:(l.length:Int)=b.places
 range:lu l b.parts.length l.length
 fit:kr b l l.length
open Classical in
noncomputable def ar (b:ao) (l:List Int):Int:=
 if(l.length:Int)=b.places then if lu l b.parts.length l.length then if kr b l l.length then 0 else 3 else 6 else 2
section
variable {b:ao} {l:List Int}
theorem j0 (h:¬(l.length:Int)=b.places):2=ar b l:=by unfold ar;rw[if_neg h]
theorem ly (h:(l.length:Int)=b.places) (h2:¬lu l b.parts.length l.length):6=ar b l:=by unfold ar;rw[if_pos h,if_neg h2]
theorem fF (h:(l.length:Int)=b.places) (h2:lu l b.parts.length l.length) (h3:¬kr b l l.length):3=ar b l:=by unfold ar;rw[if_pos h,if_pos h2,if_neg h3]
theorem lz (h:dp b l):0=ar b l:=by unfold ar;rw[if_pos h.len,if_pos h.range,if_pos h.fit]
theorem bI:ar b l=0↔dp b l:=by
 refine⟨fun h=>?_,fun h=>(lz h).symm⟩;by_cases h1:(l.length:Int)=b.places
 .by_cases h2:lu l b.parts.length l.length
  .by_cases h3:kr b l l.length
   .exact⟨h1,h2,h3⟩
   .rw[<-fF h1 h2 h3]at h;cases h
  .rw[<-ly h1 h2]at h;cases h
 .rw[<-j0 h1]at h;cases h
end
structure qC (w:World) (g:Nat) (v0 v1 v2 v3 v4:Value):Prop where
 c0:w.cell? ⟨g,0,none⟩=some v0
 c1:w.cell? ⟨g,1,none⟩=some v1
 c2:w.cell? ⟨g,2,none⟩=some v2
 c3:w.cell? ⟨g,3,none⟩=some v3
 c4:w.cell? ⟨g,4,none⟩=some v4
theorem qC.of {w1:World} {v0 v1 v2 v3 v4:Value} (h:Below (w.heap.size+1) (w.alloc (.cells #[v0,v1,v2,v3,v4] 26)) w1):qC w1 w.heap.size v0 v1 v2 v3 v4:=
 ⟨boxed h 0,boxed h 1,boxed h 2,boxed h 3,boxed h 4⟩
theorem fG (w:World) (v vl:Value) (b:ao) (l:List Int) (hb:au w v b) (hl:an w vl l):
 Calls ZP 56 #[v,vl] w (aW w fun s=>s=ar b l):=by
 have HB:=hid hb;obtain⟨v2,v3,v4,rfl,⟨a2,c2,h2,f2⟩,⟨a3,c3,⟨rfl,_,_,_,_⟩,_⟩,⟨a4,c4,⟨rfl,_,_,_,_⟩,_⟩⟩:=hb;obtain⟨al,cl,B7,fl⟩:=hl;have H2:Hid (bH w v2 b.parts.length a2 c2/\_):=⟨h2,f2⟩
 have HL:Hid (bH w vl l.length al cl/\_):=⟨B7,fl⟩
 obtain⟨rfl,l2,m2,n2,r2⟩:=h2;obtain⟨rfl,ll,ml,nl,rl⟩:=B7;unfold maxLen at m2 ml;clear r2 f2 n2 rl fl nl;have kd:wrap64 ((b.parts.length:Int)-1)=b.parts.length-1:=by unfold wrap64;omega
 go_enter ZF56,Tryz.ntmps56
 by_cases hlen:(l.length:Int)=b.places
 case neg=>
  go_wp2
  go_ret;exact aW.mk (r:=2) (j0 hlen) ((Below.refl _ _).alloc (Nat.le_refl _) _)
 have sy:=hid hlen;have bJ:((l.length:Int)!=b.places)=false:=by simp[hlen]
 clear hlen;go_wp2
 go_loopw [5] (fun i w1=>∃k:Nat,k<=l.length/\Hid (lu l b.parts.length k)/\i=.int .i64 k/\Hid (Below (w.heap.size+1) (w.alloc (.cells #[.int .i64 b.ak,.int .i64 b.places,.slice a2 b.parts.length c2,.slice a3 b.apart.length c3,.slice a4 b.ab.length c4] 26)) w1)) (fun i _=>l.length-(intOf i).toNat)
 case atStart=>exact⟨0,Nat.zero_le _,.zero _ _,rfl,Below.refl _ _⟩
 case round=>
  obtain⟨k,hk,hN,rfl,hB⟩:=hrel;obtain⟨g0,g1,g2,g3,g4⟩:=qC.of hB.o;by_cases az:k<l.length
  .obtain⟨⟨blk,off,sp⟩,x,rfl,hx,x0⟩:=HL.o.1.elem HL.o.2 az;obtain rfl:sp=none:=x0.1;have HX:=hid hx;have y0:=(x0.later (Kp.boxed hB.o)).2;simp only at y0;have nL:(k:Int)<(l.length:Int):=by omega
   clear x0 hx;by_cases e:0<=x/\x<=(b.parts.length:Int)-1
   .have HE:=hid e;have hd:(decide (0<=x)&&decide (x<=(b.parts.length:Int)-1))=true:=by simpa using e
    clear e;go_wp2
    go_quiet ((go_at_call 68;exact(ls _ _ _ _).mono fun e w' h=>⟨h.1.trans (by rw[hd]),_,h.2⟩))
    go_wp2
    go_round
    case rel=>exact⟨k+1,by omega,hN.o.succ HX.o HE.o,by go_num,Below.drewN hB.o _⟩
    case measure=>simp[intOf];omega
   .have HE:=hid e
    have hd:(decide (0<=x)&&decide (x<=(b.parts.length:Int)-1))=false:=by
     cases hh:(decide (0<=x)&&decide (x<=(b.parts.length:Int)-1))with
     |false=>rfl
     |true=>exact absurd (by simpa using hh) e
    clear e;go_wp2
    go_quiet ((go_at_call 68;exact(ls _ _ _ _).mono fun e w' h=>⟨h.1.trans (by rw[hd]),_,h.2⟩))
    go_wp2
    go_ret;exact aW.mk (r:=6) (ly sy.o fun h=>HE.o (h k x az HX.o)) (Below.drewN (Below.boxed hB.o) _)
  .have HN:Hid (lu l b.parts.length l.length):=(by have e:k=l.length:=by omega
                                                   subst e;exact hN.o)
   clear hN;go_wp2
   go_loopw [6] (fun i w1=>∃k:Nat,k<=l.length/\Hid (kr b l k)/\i=.int .i64 k/\Hid (Below (w.heap.size+1) (w.alloc (.cells #[.int .i64 b.ak,.int .i64 b.places,.slice a2 b.parts.length c2,.slice a3 b.apart.length c3,.slice a4 b.ab.length c4] 26)) w1)) (fun i _=>l.length-(intOf i).toNat)
   case atStart=>exact⟨0,Nat.zero_le _,.zero _ _,rfl,hB.o⟩
   case round=>
    clear g0 g1 g2 g3 g4 hB az hk;obtain⟨k,hk,hN,rfl,hB⟩:=hrel;have gg:=qC.of hB.o;by_cases az:k<l.length
    .obtain⟨⟨blk,off,sp⟩,x,rfl,hx,x0⟩:=HL.o.1.elem HL.o.2 az;obtain rfl:sp=none:=x0.1;obtain⟨xn,rfl⟩:=Int.eq_ofNat_of_zero_le (HN.o k x az hx).1;have hxr:=(HN.o k xn az hx).2;have Dg:xn<b.parts.length:=by omega
     obtain⟨⟨pb,po,ps⟩,P,rfl,hP,_,_,_,_,_,vf,p5,sA⟩:=H2.o.1.elem H2.o.2 Dg;obtain rfl:ps=none:=p5.1;have hf:=sA;obtain⟨af,cf,⟨rfl,_,_,_,_⟩,_⟩:=sA;have HX:Hid (l[k]?=some (xn:Int)/\b.parts[xn]?=some P):=⟨hx,hP⟩
     have G0:=fun X:ai wr=>X.cell gg.c0;have G1:=fun X:ai wr=>X.cell gg.c1;have G2:=fun X:ai wr=>X.cell gg.c2;have G3:=fun X:ai wr=>X.cell gg.c3;have G4:=fun X:ai wr=>X.cell gg.c4;have Y0:=fun X:ai wr=>X.cell (x0.later (Kp.boxed hB.o)).2;have Y5:=fun X:ai wr=>X.cell (p5.later (Kp.boxed hB.o)).2;simp only[<-Nat.add_assoc]at Y0 Y5;have nL:(k:Int)<(l.length:Int):=by omega
     have hx2:(xn:Int)<(b.parts.length:Int):=by omega
     have hz:Hid (w.heap.size+1<=wr.heap.size):=by have:=hB.o.size;simp at this;exact(by omega:w.heap.size+1<=wr.heap.size)
     clear x0 hx hP p5 gg
     have qD:∀X:ai wr,Calls ZP 108 #[.slice af P.fits.length cf,.int .i64 k] X.1 (fun e gI=>e=.returned (.bool (decide ((k:Int)∈P.fits)))/\∃Y:ai wr,gI=Y.1):=fun X=>
      (DX _ _ _ _ ((hf.later (Kp.boxed hB.o)).later X.kp)).mono fun e w' h=>⟨h.1,X.same h.2⟩
     by_cases mT:(k:Int)∈P.fits
     .have HF:Hid (∃P,b.parts[((xn:Int)).toNat]?=some P/\(k:Int)∈P.fits):=⟨P,by simpa using HX.o.2,mT⟩
      rw[decide_eq_true mT]at qD;clear mT;by_cases rk:0<k
      .obtain⟨b',z,wK,Ov,z0⟩:=HL.o.1.elem HL.o.2 (show k-1<l.length by omega);cases wK;have Z0:=fun X:ai wr=>X.cell (z0.later (Kp.boxed hB.o)).2;simp only at Z0;have HZ:Hid (l[k-1]?=some z):=Ov;have oA:wrap64 ((k:Int)-1)=((k-1:Nat):Int):=by unfold wrap64;omega
       have nO:(0:Int)<(k:Int):=by omega
       have oY:((k-1:Nat):Int)<(l.length:Int):=by omega
       clear z0 Ov
       have mU:∀X:ai wr,Calls ZP 109 #[.agg #[.int .i64 b.ak,.int .i64 b.places,.slice (some ⟨pb,po,none⟩) b.parts.length c2,.slice a3 b.apart.length c3,.slice a4 b.ab.length c4],.int .i64 z,.int .i64 xn] X.1 (fun e gI=>(∃r,e=.returned (.bool r)/\Tr r (Apart b.apart z xn))/\∃Y:ai wr,gI=Y.1):=fun X=>
        (qa _ _ _ _ _ ((HB.o.later (Kp.boxed hB.o)).later X.kp)).mono fun e w' h=>⟨h.1,X.on h.2⟩
       by_cases qE:Apart b.apart z xn
       .have HA:=hid qE
        have mU:∀X:ai wr,Calls ZP 109 #[.agg #[.int .i64 b.ak,.int .i64 b.places,.slice (some ⟨pb,po,none⟩) b.parts.length c2,.slice a3 b.apart.length c3,.slice a4 b.ab.length c4],.int .i64 z,.int .i64 xn] X.1 (fun e gI=>e=.returned (.bool true)/\∃Y:ai wr,gI=Y.1):=fun X=>
         (mU X).mono fun e w' ⟨⟨r,h1,h2⟩,h3⟩=>⟨by rw[h1,h2.2 qE],h3⟩
        clear qE;go_wp2
        refine am (by kernel_rfl) (by kernel_rfl) ?_;repeat(go_big_quiet_step (first|(go_at_call 108;exact qD _)|(go_at_call 109;exact mU _)))
        refine wpQuiet_nil ?_;rintro _ ⟨X,rfl⟩;go_wp2
        go_ret;exact aW.mk (r:=3) (fF sy.o HN.o fun h=>(h k _ az HX.o.1).RG rk z HZ.o HA.o) ((Below.boxed hB.o).trans (X.2.mono (Nat.le_trans (Nat.le_succ _) hz.o)))
       .have HA:Hid (DZ b l k xn):=⟨HF.o,fun _ y hy=>by rw[HZ.o]at hy;cases hy;exact qE⟩
        have mU:∀X:ai wr,Calls ZP 109 #[.agg #[.int .i64 b.ak,.int .i64 b.places,.slice (some ⟨pb,po,none⟩) b.parts.length c2,.slice a3 b.apart.length c3,.slice a4 b.ab.length c4],.int .i64 z,.int .i64 xn] X.1 (fun e gI=>e=.returned (.bool false)/\∃Y:ai wr,gI=Y.1):=fun X=>
         (mU X).mono fun e w' ⟨⟨r,h1,h2⟩,h3⟩=>⟨by cases r with
           |false=>exact h1
           |true=>exact absurd h2.t qE,h3⟩
        clear qE;go_wp2
        refine am (by kernel_rfl) (by kernel_rfl) ?_;repeat(go_big_quiet_step (first|(go_at_call 108;exact qD _)|(go_at_call 109;exact mU _)))
        refine wpQuiet_nil ?_;rintro _ ⟨X,rfl⟩;go_wp2
        go_round
        case rel=>exact⟨k+1,by omega,hN.o.succ HX.o.1 HA.o,by go_num,hB.o.trans (X.2.mono hz.o)⟩
        case measure=>simp[intOf];omega
      .have HA:Hid (DZ b l k xn):=⟨HF.o,fun h=>absurd h rk⟩
       have nO:¬(0:Int)<(k:Int):=by omega
       go_wp2
       refine am (by kernel_rfl) (by kernel_rfl) ?_;repeat(go_big_quiet_step (first|(go_at_call 108;exact qD _)))
       refine wpQuiet_nil ?_;rintro _ ⟨X,rfl⟩;go_wp2
       go_round
       case rel=>exact⟨k+1,by omega,hN.o.succ HX.o.1 HA.o,by go_num,hB.o.trans (X.2.mono hz.o)⟩
       case measure=>simp[intOf];omega
     .have HF:=hid mT;rw[decide_eq_false mT]at qD;clear mT;go_wp2
      refine am (by kernel_rfl) (by kernel_rfl) ?_;repeat(go_big_quiet_step (first|(go_at_call 108;exact qD _)))
      refine wpQuiet_nil ?_;rintro _ ⟨X,rfl⟩;go_wp2
      go_ret
      exact aW.mk (r:=3) (fF sy.o HN.o fun h=>by
       obtain⟨P',Sh,hm⟩:=(h k _ az HX.o.1).fits;simp only[Int.toNat_natCast]at Sh;rw[HX.o.2]at Sh;cases Sh;exact HF.o hm) ((Below.boxed hB.o).trans (X.2.mono (Nat.le_trans (Nat.le_succ _) hz.o)))
    .go_wp2
     go_ret;have e:k=l.length:=by omega
     subst e;exact aW.mk (r:=0) (lz ⟨sy.o,HN.o,hN.o⟩) (Below.boxed hB.o)
theorem pn (w:World) (v vl:Value) (b:ao) (l:List Int) (hb:au w v b) (hl:an w vl l) (hp:1<=b.parts.length/\b.parts.length<=5):
 Calls ZP 56 #[v,vl] w (aW w fun s=>s=ar b l):=
 fG w v vl b l hb hl
end Go.Proofs.Cz
namespace Go.Proofs.Cz
open Go.RowKit
structure qY (b:ao) (t:fO):Prop where
 QJ:dp b t.parts
 zar:0<=t.lo/\t.lo<=t.hi/\t.hi<=99
def zs (b:ao) (k:Nat):Prop:=∀j t,j<k->b.ab[j]?=some t->qY b t
structure Valid (b:ao):Prop where
 ak:1<=b.ak/\b.ak<=99
 places:1<=b.places/\b.places<=4
 parts:wI b
 jG:fE b
 many:b.ab.length<=4
 ab:zs b b.ab.length
end Go.Proofs.Cz
namespace Go.RowKit
theorem Below.nX {w w1:World} {o:Obj} (h:Below (w.alloc o).heap.size (w.alloc o) w1):Below (w.heap.size+1) (w.alloc o) w1:=by simpa using h
end Go.RowKit
namespace Go.Proofs.Cz
open Go.RowKit
end Go.Proofs.Cz
namespace Go.RowKit
theorem Below.nY {w w1 w2:World} {o:Obj} (h:Below (w.alloc o).heap.size (w.alloc o) w1) (k:Below w1.heap.size w1 w2):Below (w.heap.size+1) (w.alloc o) w2:=Below.nX (h.trans (k.mono h.size))
end Go.RowKit
namespace Go.Proofs.Cz
open Go.RowKit
end Go.Proofs.Cz
namespace Go.Proofs.Cz
open Go.RowKit
variable {b:ao} {t:fO}
open Classical in
noncomputable def cO (n:Int) (l:List (Int×Int)) (k:Nat):Int:=match l[k]? with
 |none=>0
 |some x=>if(0<=x.1/\x.1<=n-1)/\0<=x.2/\x.2<=n-1 then(if x.1<=x.2 then(if∃i,i<k/\l[i]?=some x then 5 else 0)else 7)else 6
noncomputable def bC (n:Int) (l:List (Int×Int)):Int:=if l.length<=5 then scan (cO n l) l.length else 2
section
variable {n:Int} {l:List (Int × Int)} {k:Nat} {x:Int × Int}
theorem wN (hx:l[k]?=some x) (h:¬((0<=x.1/\x.1<=n-1)/\0<=x.2/\x.2<=n-1)):cO n l k=6:=by unfold cO;rw[hx];simp only;rw[if_neg h]
theorem I9 (hx:l[k]?=some x) (h:(0<=x.1/\x.1<=n-1)/\0<=x.2/\x.2<=n-1) (h2:¬x.1<=x.2):cO n l k=7:=by unfold cO;rw[hx];simp only;rw[if_pos h,if_neg h2]
theorem Ja (hx:l[k]?=some x) (h:sx n x) {i:Nat} (hi:i<k) (hy:l[i]?=some x):cO n l k=5:=by unfold cO;rw[hx];simp only;rw[if_pos ⟨h.one,h.two⟩,if_pos h.le,if_pos ⟨i,hi,hy⟩]
theorem Ci (hx:l[k]?=some x) (h:sx n x) (h2:gP l x k):cO n l k=0:=by unfold cO;rw[hx];simp only;rw[if_pos ⟨h.one,h.two⟩,if_pos h.le,if_neg (fun⟨i,hi,hy⟩=>h2 i x hi hy rfl)]
theorem sB (hm:l.length<=5):bC n l=scan (cO n l) l.length:=by unfold bC;rw[if_pos hm]
theorem iz:bC b.parts.length b.apart=0↔fE b:=by
 unfold bC;constructor
 .intro h;split at h
  .rename_i hm;refine⟨hm,fun j x hj hx=>?_⟩;have h1:=eC.1 h j hj;unfold cO at h1;rw[hx]at h1;simp only at h1;split at h1
   .rename_i h2;split at h1
    .rename_i h3;split at h1
     .cases h1
     .rename_i h4;exact⟨⟨h2.1,h2.2,h3⟩,fun i y hi hy e=>h4 ⟨i,hi,by rw[<-e];exact hy⟩⟩
    .cases h1
   .cases h1
  .cases h
 .intro h;rw[if_pos h.many,eC];intro j hj;have hx:b.apart[j]?=some b.apart[j]:=List.getElem?_eq_getElem hj;have h1:=h.all j _ hj hx;exact Ci hx h1.1 h1.2
end
theorem eZ:bc b.places b.parts=0↔wI b:=by
 unfold bc;constructor
 .intro h;split at h
  .rename_i hm;refine⟨hm,fun j x hj hx=>?_⟩;have h1:=eC.1 h j hj;unfold bO at h1;rw[hx]at h1;simp only at h1;split at h1
   .rename_i h2;split at h1
    .cases h1
    .rename_i h3;split at h1
     .rename_i h4;exact⟨⟨h2,h4.1,h4.2.1,h4.2.2.1,h4.2.2.2,pY.1 h1⟩,fun i y hi hy e=>h3 ⟨i,y,hi,hy,e⟩⟩
     .cases h1
   .cases h1
  .cases h
 .intro h;rw[if_pos h.many,eC];intro j hj;have hx:b.parts[j]?=some b.parts[j]:=List.getElem?_eq_getElem hj;have h1:=h.all j _ hj hx;rw[wJ hx h1.1.name h1.2 ⟨h1.1.cost,h1.1.fN,h1.1.time,h1.1.wide⟩];exact pY.2 h1.1.zap
noncomputable def cD (b:ao) (k:Nat):Int:=match b.ab[k]? with
 |none=>0
 |some t=>if ar b t.parts=0 then(if 0<=t.lo/\t.lo<=t.hi/\t.hi<=99 then 0 else 1)else ar b t.parts
noncomputable def cP (b:ao):Int:=if b.ab.length<=4 then scan (cD b) b.ab.length else 2
theorem wO {k:Nat} (hx:b.ab[k]?=some t) (h:qY b t):cD b k=0:=by unfold cD;rw[hx];simp only;rw[if_pos (bI.2 h.QJ),if_pos h.zar]
theorem D0 {k:Nat} (hx:b.ab[k]?=some t) (h:dp b t.parts) (h2:¬(0<=t.lo/\t.lo<=t.hi/\t.hi<=99)):cD b k=1:=by unfold cD;rw[hx];simp only;rw[if_pos (bI.2 h),if_neg h2]
theorem D1 {k:Nat} (hx:b.ab[k]?=some t) (h:ar b t.parts≠0):cD b k=ar b t.parts:=by unfold cD;rw[hx];simp only;rw[if_neg h]
theorem qb (hm:b.ab.length<=4):cP b=scan (cD b) b.ab.length:=by unfold cP;rw[if_pos hm]
theorem qc:cP b=0↔b.ab.length<=4/\zs b b.ab.length:=by
 unfold cP;constructor
 .intro h;split at h
  .rename_i hm;refine⟨hm,fun j t hj ht=>?_⟩;have h1:=eC.1 h j hj;unfold cD at h1;rw[ht]at h1;simp only at h1;split at h1
   .rename_i h2;split at h1
    .rename_i h3;exact⟨bI.1 h2,h3⟩
    .cases h1
   .rename_i h2;exact absurd h1 h2
  .cases h
 .rintro⟨hm,h⟩;rw[if_pos hm,eC];intro j hj;have hx:b.ab[j]?=some b.ab[j]:=List.getElem?_eq_getElem hj;exact wO hx (h j _ hj hx)
noncomputable def aO (b:ao):Int:=
 if(1<=b.ak/\b.ak<=99)/\1<=b.places/\b.places<=4 then
  (if bc b.places b.parts=0 then(if bC b.parts.length b.apart=0 then cP b else bC b.parts.length b.apart)else bc b.places b.parts)
 else 1
theorem cF:aO b=0↔Valid b:=by
 unfold aO;constructor
 .intro h;split at h
  .rename_i h1;split at h
   .rename_i h2;split at h
    .rename_i h3;have h4:=qc.1 h;exact⟨h1.1,h1.2,eZ.1 h2,iz.1 h3,h4.1,h4.2⟩
    .rename_i h3;exact absurd h h3
   .rename_i h2;exact absurd h h2
  .cases h
 .intro h;rw[if_pos ⟨h.ak,h.places⟩,if_pos (eZ.2 h.parts),if_pos (iz.2 h.jG),qc];exact⟨h.many,h.ab⟩
theorem qF (w:World) (v:Value) (b:ao) (hb:au w v b) (hp:1<=b.parts.length/\b.parts.length<=5):
 Calls ZP 71 #[v] w (aW w fun s=>s=bC b.parts.length b.apart):=by
 obtain⟨v2,v3,v4,rfl,⟨a2,c2,h2,f2⟩,⟨a3,c3,h3,f3⟩,h4⟩:=hb;have H3:Hid (bH w v3 b.apart.length a3 c3/\_):=⟨h3,f3⟩
 obtain⟨rfl,l2,m2,n2,r2⟩:=h2;obtain⟨rfl,l3,m3,n3,r3⟩:=h3;unfold maxLen at m2 m3;clear r2 f2 n2 r3 f3 n3 h4;have kd:wrap64 ((b.parts.length:Int)-1)=b.parts.length-1:=by unfold wrap64;omega
 go_enter ZF71,Tryz.ntmps71
 go_wp2
 .rename_i hm;go_ret;exact aW.mk (r:=2) (by unfold bC;rw[if_neg (by omega)]) ((Below.refl _ _).alloc (Nat.le_refl _) _)
 rename_i hm;have mS:Hid (bC b.parts.length b.apart=scan (cO b.parts.length b.apart) b.apart.length):=sB (by omega);go_loopw [3] (fun i w1=>∃k:Nat,k<=b.apart.length/\Hid (scan (cO b.parts.length b.apart) k=0)/\i=.int .i64 k/\Hid (Below (w.heap.size+1) (w.alloc (.cells #[.int .i64 b.ak,.int .i64 b.places,.slice a2 b.parts.length c2,.slice a3 b.apart.length c3,v4] 26)) w1)) (fun i _=>b.apart.length-(intOf i).toNat)
 case atStart=>exact⟨0,Nat.zero_le _,rfl,rfl,Below.refl _ _⟩
 case round=>
  obtain⟨k,hk,hN,rfl,hB⟩:=hrel;have g2:=boxed hB.o 2;have g3:=boxed hB.o 3;simp only[List.getElem?_toArray,List.getElem?_cons_succ,List.getElem?_cons_zero]at g2 g3;by_cases az:k<b.apart.length
  .obtain⟨⟨blk,off,sp⟩,⟨xa,xb⟩,rfl,hx,x0,x1⟩:=H3.o.1.elem H3.o.2 az;obtain rfl:sp=none:=x0.1;have HX:=hid hx;have y0:=(x0.later (Kp.boxed hB.o)).2;have y1:=(x1.later (Kp.boxed hB.o)).2;simp only[<-Nat.add_assoc]at y0 y1;have li:w.heap.size+1<=wr.heap.size:=by have:=hB.o.size;simp at this;omega
   have m8:blk<w.heap.size:=x0.lt;have Tk:∀o,(wr.alloc o).cell? ⟨w.heap.size,2,none⟩=some (.slice a2 b.parts.length c2):=fun o=>(dI (by show w.heap.size<_;omega) o).trans g2;have g3':∀o,(wr.alloc o).cell? ⟨w.heap.size,3,none⟩=some (.slice (some ⟨blk,off,none⟩) b.apart.length c3):=fun o=>(dI (by show w.heap.size<_;omega) o).trans g3;clear x0 x1 hx;go_wp2_with(go_at_call 68;refine(MB _ _ _ _).mono ?_;rintro e w' ⟨r,rfl,hr,rfl⟩;cases r)
   .go_ret;exact aW.mk (r:=6) (mS.o.trans (aK hN.o (wN HX.o fun h=>hr.f h.1) (by decide) az)).symm (Below.one (Below.boxed hB.o) (by omega) _ 0)
   .go_ret;exact aW.mk (r:=6) (mS.o.trans (aK hN.o (wN HX.o fun h=>hr.f h.2) (by decide) az)).symm (Below.one (Below.boxed hB.o) (by omega) _ 0)
   .rename_i uo;go_ret;rename_i qP;exact aW.mk (r:=7) (mS.o.trans (aK hN.o (I9 HX.o ⟨Tr.t (by assumption),hr.t⟩ (by simp only;omega)) (by decide) az)).symm (Below.one (Below.boxed hB.o) (by omega) _ 0)
   rename_i qP hle;have HK:Hid (sx b.parts.length (xa,xb)):=⟨qP.t,hr.t,hle⟩
   have HL:=hid az;clear hr qP hle;go_loopw [5] (fun i w2=>∃m:Nat,m<=k/\Hid (gP b.apart (xa,xb) m)/\i=.int .i64 m/\∃n,w2=(wr.alloc (.cells #[.int .i64 xa,.int .i64 xb] 111)).drewN n) (fun i _=>k-(intOf i).toNat)
   case atStart=>exact⟨0,Nat.zero_le _,.zero _ _,rfl,0,rfl⟩
   case round=>
    obtain⟨m,hm2,hM,rfl,n0,rfl⟩:=hrel;by_cases il:m<k
    .obtain⟨b',⟨ya,yb⟩,wK,hy,z0,z1⟩:=H3.o.1.elem H3.o.2 (show m<b.apart.length by have:=HL.o;omega);cases wK;have q0:=((z0.later (Kp.boxed hB.o)).later (Kp.alloc wr (.cells #[.int .i64 xa,.int .i64 xb] 111))).2;have q1:=((z1.later (Kp.boxed hB.o)).later (Kp.alloc wr (.cells #[.int .i64 xa,.int .i64 xb] 111))).2;simp only[<-Nat.add_assoc]at q0 q1;have HY:=hid hy;have U7:(m:Int)<(k:Int):=by omega
     have sw:(m:Int)<(b.apart.length:Int):=by omega
     clear hy z0 z1;have hB1:=Below.one (Below.boxed hB.o) (by omega) (.cells #[.int .i64 xa,.int .i64 xb] 111);have eI:=hid hB1;clear hB1;by_cases e1:ya=xa
     .by_cases e2:yb=xb
      .subst e1 e2;go_wp2
       go_quiet (fail)
       go_wp2
       go_ret;exact aW.mk (r:=5) (mS.o.trans (aK hN.o (Ja HX.o HK.o il HY.o) (by decide) HL.o)).symm (Below.drewN (eI.o _) _)
      .subst e1;have bJ:Hid ((ya,yb)≠(ya,xb)):=(fun h=>e2 (by cases h;rfl):(ya,yb)≠(ya,xb))
       go_wp2
       go_quiet (fail)
       go_wp2
       go_round
       case rel=>exact⟨m+1,by omega,hM.o.succ HY.o bJ.o,by go_num,_,rfl⟩
       case measure=>simp[intOf];omega
     .have bJ:Hid ((ya,yb)≠(xa,xb)):=(fun h=>e1 (by cases h;rfl):(ya,yb)≠(xa,xb))
      go_wp2
      go_quiet (fail)
      go_wp2
      go_round
      case rel=>exact⟨m+1,by omega,hM.o.succ HY.o bJ.o,by go_num,_,rfl⟩
      case measure=>simp[intOf];omega
    .have HM:Hid (gP b.apart (xa,xb) k):=(by have e:m=k:=by omega
                                             subst e;exact hM.o)
     go_wp2
     go_round
     case rel=>exact⟨k+1,by omega,fC hN.o (Ci HX.o HK.o HM.o),by go_num,Below.one hB.o (by omega) _ _⟩
     case measure=>simp[intOf];omega
  .go_wp2
   go_ret;have e:k=b.apart.length:=by omega
   subst e;exact aW.mk (r:=0) (mS.o.trans hN.o).symm (Below.boxed hB.o)
theorem mq (w:World) (v:Value) (b:ao) (hb:au w v b) (hs:de b):
 Calls ZP 21 #[v] w (aW w fun s=>s=aO b):=by
 have HB:=hid hb;obtain⟨v2,v3,v4,rfl,⟨a2,c2,⟨rfl,_,_,_,_⟩,_⟩,⟨a3,c3,⟨rfl,_,_,_,_⟩,_⟩,⟨a4,c4,h4,f4⟩⟩:=hb;have H4:Hid (bH w v4 b.ab.length a4 c4/\_):=⟨h4,f4⟩
 obtain⟨rfl,l4,m4,n4,r4⟩:=h4;unfold maxLen at m4;clear r4 f4 n4;go_enter ZF21,Tryz.ntmps21
 have eI:=HB.o.later (Kp.alloc w (.cells #[.int .i64 b.ak,.int .i64 b.places,.slice a2 b.parts.length c2,.slice a3 b.apart.length c3,.slice a4 b.ab.length c4] 26))
 go_wp2_with(first
  |(go_at_call 68;refine(MB _ _ _ _).mono ?_;rintro e w' ⟨r,rfl,hr,rfl⟩;cases r)
  |(go_at_call 70;refine(qB _ _ _ eI hs hr.t).mono ?_;rintro e w1 ⟨⟨r,rfl,hr4⟩,Ce⟩;have Si:Hid (r=bc b.places b.parts):=hr4;clear hr4;by_cases Sj:r=0;obtain⟨g0,g1,g2,g3,g4⟩:=qC.of Ce.nX)
  |(go_at_call 71;refine(qF _ _ _ (HB.o.later (Kp.boxed Ce.nX)) (eZ.1 (Si.o.symm.trans Sj)).many).mono ?_;rintro e w2 ⟨⟨r2,rfl,UT⟩,pp⟩;have Xf:Hid (r2=bC b.parts.length b.apart):=UT;clear UT;by_cases Xg:r2=0;obtain⟨q0,q1,q2,q3,q4⟩:=qC.of (Ce.nY pp)))
 .go_ret;exact aW.mk (r:=1) (by unfold aO;rw[if_neg fun h=>hr.f h.1]) ((Below.refl _ _).alloc (Nat.le_refl _) _)
 .go_ret;exact aW.mk (r:=1) (by unfold aO;rw[if_neg fun h=>hr.f h.2]) ((Below.refl _ _).alloc (Nat.le_refl _) _)
 .rename_i R6;go_ret;exact aW.mk (r:=2) (by unfold aO cP;rw[if_pos ⟨Tr.t (by assumption),hr.t⟩,if_pos (Si.o.symm.trans Sj),if_pos (Xf.o.symm.trans Xg),if_neg (by omega)]) (Below.boxed (Ce.nY pp))
 .have HV:Hid ((1<=b.ak/\b.ak<=99)/\(1<=b.places/\b.places<=4)/\wI b/\fE b/\b.ab.length<=4):=by
   exact⟨Tr.t (by assumption),hr.t,eZ.1 (Si.o.symm.trans Sj),iz.1 (Xf.o.symm.trans Xg),by omega⟩
  have Oi:aO b=scan (cD b) b.ab.length:=by
   unfold aO;rw[if_pos ⟨HV.o.1,HV.o.2.1⟩,if_pos (eZ.2 HV.o.2.2.1),if_pos (iz.2 HV.o.2.2.2.1),qb HV.o.2.2.2.2]
  have HBO:=hid Oi;clear Oi;have KG:Hid (Below (w.heap.size+1) (w.alloc (.cells #[.int .i64 b.ak,.int .i64 b.places,.slice a2 b.parts.length c2,.slice a3 b.apart.length c3,.slice a4 b.ab.length c4] 26)) w2):=Ce.nY pp;clear hr Ce pp Sj Xg q0 q1 q2 q3 q4 g0 g1 g2 g3 g4;go_loopw [5] (fun i w1=>∃k:Nat,k<=b.ab.length/\Hid (scan (cD b) k=0)/\i=.int .i64 k/\Hid (Below (w.heap.size+1) (w.alloc (.cells #[.int .i64 b.ak,.int .i64 b.places,.slice a2 b.parts.length c2,.slice a3 b.apart.length c3,.slice a4 b.ab.length c4] 26)) w1)) (fun i _=>b.ab.length-(intOf i).toNat)
  case atStart=>exact⟨0,Nat.zero_le _,rfl,rfl,KG⟩
  case round=>
   obtain⟨k,hk,hN,rfl,hB⟩:=hrel;have gg:=qC.of hB.o;by_cases az:k<b.ab.length
   .obtain⟨⟨blk,off,sp⟩,t,rfl,hx,⟨vf,x0,hf⟩,x1,x2⟩:=H4.o.1.elem H4.o.2 az;obtain rfl:sp=none:=x0.1;have Dl:=hf;obtain⟨af,cf,⟨rfl,_,_,_,_⟩,_⟩:=hf;have HX:=hid hx;obtain⟨s0,s1,s2,s3,s4⟩:=gg;have G0:=fun X:ai wr=>X.cell s0;have G1:=fun X:ai wr=>X.cell s1;have G2:=fun X:ai wr=>X.cell s2;have G3:=fun X:ai wr=>X.cell s3;have G4:=fun X:ai wr=>X.cell s4;have Y0:=fun X:ai wr=>X.cell (x0.later (Kp.boxed hB.o)).2;have Y1:=fun X:ai wr=>X.cell (x1.later (Kp.boxed hB.o)).2;have Y2:=fun X:ai wr=>X.cell (x2.later (Kp.boxed hB.o)).2;simp only[<-Nat.add_assoc]at Y0 Y1 Y2;have nL:(k:Int)<(b.ab.length:Int):=by omega
    have hz:Hid (w.heap.size+1<=wr.heap.size):=by have:=hB.o.size;simp at this;exact(by omega:w.heap.size+1<=wr.heap.size)
    have Ow:∀X:ai wr,Calls ZP 56 #[.agg #[.int .i64 b.ak,.int .i64 b.places,.slice a2 b.parts.length c2,.slice a3 b.apart.length c3,.slice (some ⟨blk,off,none⟩) b.ab.length c4],.slice af t.parts.length cf] X.1 (fun e gI=>e=.returned (.int .i64 (ar b t.parts))/\∃Y:ai wr,gI=Y.1):=fun X=>
     (pn _ _ _ _ _ ((HB.o.later (Kp.boxed hB.o)).later X.kp) ((Dl.later (Kp.boxed hB.o)).later X.kp) HV.o.2.2.1.many).mono fun e w' ⟨⟨r,h1,h2⟩,h3⟩=>⟨by rw[h1,h2],X.on h3⟩
    clear Dl x0 x1 x2 hx;by_cases Jb:ar b t.parts=0
    .have HM:Hid (dp b t.parts):=bI.1 Jb;go_wp2
     refine am (by kernel_rfl) (by kernel_rfl) ?_;repeat(go_big_quiet_step (first|(go_at_call 56;exact Ow _)))
     refine wpQuiet_nil ?_;rintro _ ⟨X,rfl⟩;go_wp2_with(go_at_call 72;refine(sq _ _ _ _ _).mono ?_;rintro e w' ⟨r,rfl,hr,rfl⟩;cases r)
     .go_ret;exact aW.mk (r:=1) (HBO.o.trans (aK hN.o (D0 HX.o HM.o hr.f) (by decide) az)).symm (Below.alloc ((Below.boxed hB.o).trans (X.2.mono (Nat.le_trans (Nat.le_succ _) hz.o))) (Nat.le_trans (Nat.le_trans (Nat.le_succ _) hz.o) X.2.size) _)
     .have HT:Hid (qY b t):=⟨HM.o,hr.t⟩
      clear hr;go_round
      case rel=>exact⟨k+1,by omega,fC hN.o (wO HX.o HT.o),by go_num,Below.alloc (hB.o.trans (X.2.mono hz.o)) (Nat.le_trans hz.o X.2.size) _⟩
      case measure=>simp[intOf];omega
    .have HM:Hid (¬dp b t.parts):=fun h=>Jb (bI.2 h);go_wp2
     refine am (by kernel_rfl) (by kernel_rfl) ?_;repeat(go_big_quiet_step (first|(go_at_call 56;exact Ow _)))
     refine wpQuiet_nil ?_;rintro _ ⟨X,rfl⟩;go_wp2
     go_ret;exact aW.mk (HBO.o.trans (aK hN.o (D1 HX.o Jb) Jb az)).symm ((Below.boxed hB.o).trans (X.2.mono (Nat.le_trans (Nat.le_succ _) hz.o)))
   .have ek:k=b.ab.length:=by omega
    subst ek;have HN:=hid hN;obtain⟨s0,s1,s2,s3,s4⟩:=gg;go_wp2
    go_ret;exact aW.mk (r:=0) (HBO.o.trans HN.o).symm (Below.boxed hB.o)
 .go_ret;exact aW.mk (by unfold aO;rw[if_pos ⟨Tr.t (by assumption),hr.t⟩,if_pos (Si.o.symm.trans Sj),if_neg (by rw[<-Xf.o];exact Xg)];exact Xf.o) (Below.boxed (Ce.nY pp))
 .go_ret;exact aW.mk (by unfold aO;rw[if_pos ⟨Tr.t (by assumption),hr.t⟩,if_neg (by rw[<-Si.o];exact Sj)];exact Si.o) (Below.boxed Ce.nX)
end Go.Proofs.Cz
