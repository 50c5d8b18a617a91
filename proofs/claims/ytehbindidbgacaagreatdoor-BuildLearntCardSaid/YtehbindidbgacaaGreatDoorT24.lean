/- A part. Conditions: none. -/
import Derived.Test.YtehbindidbgacaaGreatDoorT23
import Derived.Laws.StructEq
set_option linter.all false
set_option maxHeartbeats 8000000
namespace Go.Proofs.Cz
open Go.RowKit
variable {k:Nat} {n p q:Int} {w w0:World} {x:Int×Int}
@[go_sem] theorem SZ:ZP.eqGuardType ZP.depth 125=false:=by kernel_rfl
structure pR (n:Int) (x:Int×Int):Prop where
 one:0<=x.1/\x.1<=n-1
 two:0<=x.2/\x.2<=n-1
 le:x.1<=x.2
def gH (l:List (Int×Int)) (x:Int×Int) (k:Nat):Prop:=∀j y,j<k->l[j]?=some y->y≠x
theorem gH.zero (l:List (Int×Int)) (x:Int×Int):gH l x 0:=λj y h=>by omega
theorem gH.succ {l:List (Int×Int)} {y:Int×Int} (h:gH l x k) (hy:l[k]?=some y) (bE:y≠x):gH l x (k+1):=λj z hj hz=>by
 by_cases e:j=k
 .subst e;rw[hy]at hz;cases hz;exact bE
 .exact h j z (by omega) hz
def js (n:Int) (l:List (Int×Int)) (k:Nat):Prop:=∀j x,j<k->l[j]?=some x->pR n x/\gH l x j
theorem js.zero (n:Int) (l:List (Int×Int)):js n l 0:=λj y h=>by omega
theorem js.succ {l:List (Int×Int)} (h:js n l k) (hx:l[k]?=some x) (h1:pR n x) (h2:gH l x k):js n l (k+1):=λj z hj hz=>by
 by_cases e:j=k
 .subst e;rw[hx]at hz;cases hz;exact⟨h1,h2⟩
 .exact h j z (by omega) hz
structure fy (b:ap):Prop where
 many:b.apart.length<=5
 all:js b.parts.length b.apart b.apart.length
theorem tf (w:World) (v:Value) (b:ap) (hb:ar w v b) (hp:1<=b.parts.length/\b.parts.length<=5):
 Calls ZP 80 #[v] w (aY w λs=>s=0↔fy b):=by
 obtain⟨v2,v3,v4,rfl,⟨a2,c2,h2,f2⟩,⟨a3,c3,h3,f3⟩,h4⟩:=hb;have H3:Hid (bA w v3 b.apart.length a3 c3/\_):=⟨h3,f3⟩
 obtain⟨rfl,l2,m2,n2,r2⟩:=h2;obtain⟨rfl,l3,m3,n3,r3⟩:=h3;unfold maxLen at m2 m3;clear r2 f2 n2 r3 f3 n3 h4;have jJ:wrap64 ((b.parts.length:Int)-1)=b.parts.length-1:=by unfold wrap64;omega
 go_enter ZF80,Tryz.ntmps80
 go_wp2
 .rename_i hm;go_ret;exact aY.mk (r:=2) (bad (by decide) λh=>by have:=h.many;omega) ((Below.refl _ _).alloc (zAC _) _)
 rename_i hm;go_loopw [3] (λi w1=>∃k:Nat,k<=b.apart.length/\Hid (js b.parts.length b.apart k)/\i=.int .i64 k/\Hid (Below (w.heap.size+1) (w.alloc (.cells #[.int .i64 b.ac,.int .i64 b.places,.slice a2 b.parts.length c2,.slice a3 b.apart.length c3,v4] 26)) w1)) (λi _=>b.apart.length-(intOf i).toNat)
 case atStart=>exact⟨0,zAR _,.zero _ _,rfl,Below.refl _ _⟩
 case round=>
  obtain⟨k,hk,hN,rfl,hB⟩:=hrel;have g2:=boxed hB.o 2;have g3:=boxed hB.o 3;simp only[zCC,zBM,zBC]at g2 g3;by_cases az:k<b.apart.length
  .obtain⟨⟨blk,off,sp⟩,⟨xa,xb⟩,rfl,hx,x0,x1⟩:=H3.o.1.elem H3.o.2 az;obtain rfl:sp=none:=x0.1;have HX:=hid hx;have y0:=(x0.later (Kp.boxed hB.o)).2;have y1:=(x1.later (Kp.boxed hB.o)).2;simp only[<-zBE]at y0 y1;have jr:w.heap.size+1<=wr.heap.size:=by have:=hB.o.size;simp at this;omega
   have kr:blk<w.heap.size:=x0.lt;have VA:∀o,(wr.alloc o).cell? ⟨w.heap.size,2,none⟩=some (.slice a2 b.parts.length c2):=λo=>(dW (by show w.heap.size<_;omega) o).trans g2;have g3':∀o,(wr.alloc o).cell? ⟨w.heap.size,3,none⟩=some (.slice (some ⟨blk,off,none⟩) b.apart.length c3):=λo=>(dW (by show w.heap.size<_;omega) o).trans g3;clear x0 x1 hx;go_wp2_with(go_at_call 20;refine(N0 _ _ _ _).mono ?_;rintro e w' ⟨r,rfl,hr,rfl⟩;cases r)
   .go_ret;exact aY.mk (r:=6) (bad (by decide) λh=>hr.f (h.all k _ az HX.o).1.one) (Below.one (Below.boxed hB.o) (by omega) _ 0)
   .go_ret;exact aY.mk (r:=6) (bad (by decide) λh=>hr.f (h.all k _ az HX.o).1.two) (Below.one (Below.boxed hB.o) (by omega) _ 0)
   .rename_i zl;go_ret;exact aY.mk (r:=7) (bad (by decide) λh=>absurd (h.all k _ az HX.o).1.le (by simp only;omega)) (Below.one (Below.boxed hB.o) (by omega) _ 0)
   rename_i su hle;have HK:Hid (pR b.parts.length (xa,xb)):=⟨su.t,hr.t,hle⟩
   have HL:=hid az;clear hr su hle;go_loopw [5] (λi w2=>∃m:Nat,m<=k/\Hid (gH b.apart (xa,xb) m)/\i=.int .i64 m/\∃n,w2=(wr.alloc (.cells #[.int .i64 xa,.int .i64 xb] 125)).drewN n) (λi _=>k-(intOf i).toNat)
   case atStart=>exact⟨0,zAR _,.zero _ _,rfl,0,rfl⟩
   case round=>
    obtain⟨m,hm2,hM,rfl,n0,rfl⟩:=hrel;by_cases jg:m<k
    .obtain⟨b',⟨ya,yb⟩,yX,hy,z0,z1⟩:=H3.o.1.elem H3.o.2 (show m<b.apart.length by have:=HL.o;omega);cases yX;have q0:=((z0.later (Kp.boxed hB.o)).later (Kp.alloc wr (.cells #[.int .i64 xa,.int .i64 xb] 125))).2;have q1:=((z1.later (Kp.boxed hB.o)).later (Kp.alloc wr (.cells #[.int .i64 xa,.int .i64 xb] 125))).2;simp only[<-zBE]at q0 q1;have HY:=hid hy;have Xs:(m:Int)<(k:Int):=by omega
     have BH:(m:Int)<(b.apart.length:Int):=by omega
     clear hy z0 z1;have hB1:=Below.one (Below.boxed hB.o) (by omega) (.cells #[.int .i64 xa,.int .i64 xb] 125);have dh:=hid hB1;clear hB1;by_cases e1:ya=xa
     .by_cases e2:yb=xb
      .subst e1 e2;go_wp2
       go_quiet (fail)
       go_wp2
       go_ret;exact aY.mk (r:=5) (bad (by decide) λh=>(h.all k _ HL.o HX.o).2 m _ jg HY.o rfl) (Below.drewN (dh.o _) _)
      .subst e1;have bE:Hid ((ya,yb)≠(ya,xb)):=(λh=>e2 (by cases h;rfl):(ya,yb)≠(ya,xb))
       go_wp2
       go_quiet (fail)
       go_wp2
       go_round
       case rel=>exact⟨m+1,by omega,hM.o.succ HY.o bE.o,by go_num,_,rfl⟩
       case measure=>simp[intOf];omega
     .have bE:Hid ((ya,yb)≠(xa,xb)):=(λh=>e1 (by cases h;rfl):(ya,yb)≠(xa,xb))
      go_wp2
      go_quiet (fail)
      go_wp2
      go_round
      case rel=>exact⟨m+1,by omega,hM.o.succ HY.o bE.o,by go_num,_,rfl⟩
      case measure=>simp[intOf];omega
    .have HM:Hid (gH b.apart (xa,xb) k):=(by have e:m=k:=by omega
                                             subst e;exact hM.o)
     go_wp2
     go_round
     case rel=>exact⟨k+1,by omega,hN.o.succ HX.o HK.o HM.o,by go_num,Below.one hB.o (by omega) _ _⟩
     case measure=>simp[intOf];omega
  .go_wp2
   go_ret;have e:k=b.apart.length:=by omega
   subst e;exact aY.mk (r:=0) ⟨λ_=>⟨by omega,hN.o⟩,λ_=>rfl⟩ (Below.boxed hB.o)
def xP (x:Int×Int) (p q:Int):Prop:=x.1=p/\x.2=q\/x.1=q/\x.2=p
def Apart (l:List (Int×Int)) (p q:Int):Prop:=∃x∈l,xP x p q
def qE (l:List (Int×Int)) (p q:Int) (k:Nat):Prop:=∀j x,j<k->l[j]?=some x->¬xP x p q
theorem qE.zero (l:List (Int×Int)) (p q:Int):qE l p q 0:=λj y h=>by omega
theorem qE.succ {l:List (Int×Int)} (h:qE l p q k) (hy:l[k]?=some x) (bE:¬xP x p q):qE l p q (k+1):=λj z hj hz=>by
 by_cases e:j=k
 .subst e;rw[hy]at hz;cases hz;exact bE
 .exact h j z (by omega) hz
theorem qE.all {l:List (Int×Int)} (h:qE l p q l.length):¬Apart l p q:=λ⟨x,hm,hx⟩=>by
 obtain⟨j,hj,rfl⟩:=zCI hm;exact h j _ hj (zAJ hj) hx
theorem qF (w:World) (v:Value) (b:ap) (p q:Int) (hb:ar w v b):
 Calls ZP 63 #[v,.int .i64 p,.int .i64 q] w (cI w λr=>Tr r (Apart b.apart p q)):=by
 obtain⟨v2,v3,v4,rfl,h2,⟨a3,c3,h3,f3⟩,h4⟩:=hb;have H3:Hid (bA w v3 b.apart.length a3 c3/\_):=⟨h3,f3⟩
 obtain⟨rfl,l3,m3,n3,r3⟩:=h3;obtain⟨a2,c2,⟨rfl,_,_,_,_⟩,_⟩:=h2;obtain⟨a4,c4,⟨rfl,_,_,_,_⟩,_⟩:=h4;unfold maxLen at m3;clear r3 f3 n3;go_enter ZF63,Tryz.ntmps63
 go_wp2
 go_loopw [7] (λi w1=>∃k:Nat,k<=b.apart.length/\Hid (qE b.apart p q k)/\i=.int .i64 k/\Hid (Below (w.heap.size+1) (w.alloc (.cells #[.int .i64 b.ac,.int .i64 b.places,.slice a2 b.parts.length c2,.slice a3 b.apart.length c3,.slice a4 b.aa.length c4] 26)) w1)) (λi _=>b.apart.length-(intOf i).toNat)
 case atStart=>exact⟨0,zAR _,.zero _ _ _,rfl,Below.refl _ _⟩
 case round=>
  obtain⟨k,hk,hN,rfl,hB⟩:=hrel;have g3:=boxed hB.o 3;simp only[zCC,zBM,zBC]at g3;by_cases az:k<b.apart.length
  .obtain⟨⟨blk,off,sp⟩,⟨xa,xb⟩,rfl,hx,x0,x1⟩:=H3.o.1.elem H3.o.2 az;obtain rfl:sp=none:=x0.1;have HX:=hid hx;have y0:=(x0.later (Kp.boxed hB.o)).2;have y1:=(x1.later (Kp.boxed hB.o)).2;simp only[<-zBE]at y0 y1;have jr:w.heap.size+1<=wr.heap.size:=by have:=hB.o.size;simp at this;omega
   have HZ:=hid jr;clear x0 x1 hx;by_cases e:xP (xa,xb) p q
   .have hm:=zAX HX.o;rcases(show xa=p/\xb=q\/xa=q/\xb=p from e)with⟨rfl,rfl⟩|⟨rfl,rfl⟩
    .go_wp2
     go_ret;exact cI.mk (.yes ⟨_,hm,.inl ⟨rfl,rfl⟩⟩) (Below.one (Below.boxed hB.o) (by omega) _ 0)
    .by_cases e3:xa=xb
     .subst e3;go_wp2
      go_ret;exact cI.mk (.yes ⟨_,hm,.inl ⟨rfl,rfl⟩⟩) (Below.one (Below.boxed hB.o) (by omega) _ 0)
     .go_wp2
      go_ret;exact cI.mk (.yes ⟨_,hm,.inr ⟨rfl,rfl⟩⟩) (Below.one (Below.boxed hB.o) (by omega) _ 0)
   .have HE:=hid e;have e1:¬(xa=p/\xb=q):=λh=>e (.inl h);have e2:¬(xa=q/\xb=p):=λh=>e (.inr h);clear e;by_cases a1:xa=p
    .subst a1;have a2:¬xb=q:=λh=>e1 ⟨rfl,h⟩;clear e1;by_cases a3:xa=q
     .subst a3;clear e2;go_wp2
      go_round
      case rel=>exact⟨k+1,by omega,hN.o.succ HX.o HE.o,by go_num,Below.one hB.o HZ.o _ 0⟩
      case measure=>simp[intOf];omega
     .clear e2;go_wp2
      go_round
      case rel=>exact⟨k+1,by omega,hN.o.succ HX.o HE.o,by go_num,Below.one hB.o HZ.o _ 0⟩
      case measure=>simp[intOf];omega
    .clear e1;by_cases a3:xa=q
     .subst a3;have a4:¬xb=p:=λh=>e2 ⟨rfl,h⟩;clear e2;go_wp2
      go_round
      case rel=>exact⟨k+1,by omega,hN.o.succ HX.o HE.o,by go_num,Below.one hB.o HZ.o _ 0⟩
      case measure=>simp[intOf];omega
     .clear e2;go_wp2
      go_round
      case rel=>exact⟨k+1,by omega,hN.o.succ HX.o HE.o,by go_num,Below.one hB.o HZ.o _ 0⟩
      case measure=>simp[intOf];omega
  .go_wp2
   go_ret;have e:k=b.apart.length:=by omega
   subst e;exact cI.mk (.no hN.o.all) (Below.boxed hB.o)
def aj (w0:World):Type:={w:World//Below w0.heap.size w0 w}
instance (w0 : World) : Nonempty (aj w0) := ⟨⟨w0, Below.refl _ _⟩⟩
theorem aj.cell (X:aj w0) {a:Addr} {v:Value} (h:w0.cell? a=some v):X.1.cell? a=some v:=by
 have hk:a.block<w0.heap.size:=by
  unfold World.cell? at h;split at h
  .rename_i hx;exact(zAD.1 hx).1
  .cases h
 exact(World.cell?_of_block (X.2.block _ hk)).trans h
theorem aj.kp (X:aj w0):Kp w0 X.1:=Kp.of X.2
theorem aj.on (X:aj w0) (h:Below X.1.heap.size X.1 w):∃Y:aj w0,w=Y.1:=⟨⟨w,X.2.trans (h.mono X.2.size)⟩,rfl⟩
theorem aj.same (X:aj w0) (h:w=X.1):∃Y:aj w0,w=Y.1:=⟨X,h⟩
theorem ao {P:Program} {id:Nat} {Q:Exit->Act->World->Prop} {a:Act} {l:List Oper} (hm:P.follows .mixedOrders=true) (hB:Region.lexB .any l.toArray=true)
 (h:wpQuiet P l.toArray (λw'=>∃X:aj w,w'=X.1) (λa'=>∀w',(∃X:aj w,w'=X.1)->Q .normal a' w') l a):(Code.region id l.toArray true).wp P Q a w:=
 wp_region_quiet (C:=λw'=>∃X:aj w,w'=X.1) hm hB ⟨⟨_,Below.drewN (Below.refl _ w) 1⟩,rfl⟩ (by simpa using h)
def lg (l:List Int) (n:Int) (k:Nat):Prop:=∀(j:Nat) (x:Int),j<k->l[j]?=some x->0<=x/\x<=n-1
theorem lg.zero (l:List Int) (n:Int):lg l n 0:=λj y h=>by omega
theorem lg.succ {l:List Int} {x:Int} (h:lg l n k) (hy:l[k]?=some x) (bE:0<=x/\x<=n-1):lg l n (k+1):=λj z hj hz=>by
 by_cases e:j=k
 .subst e;rw[hy]at hz;cases hz;exact bE
 .exact h j z (by omega) hz
structure EY (b:ap) (l:List Int) (j:Nat) (x:Int):Prop where
 fits:∃P,b.parts[x.toNat]?=some P/\(j:Int)∈P.fits
 Ug:0<j->∀y,l[j-1]?=some y->¬Apart b.apart y x
def kR (b:ap) (l:List Int) (k:Nat):Prop:=∀j x,j<k->l[j]?=some x->EY b l j x
theorem kR.zero (b:ap) (l:List Int):kR b l 0:=λj y h=>by omega
theorem kR.succ {b:ap} {l:List Int} {x:Int} (h:kR b l k) (hy:l[k]?=some x) (bE:EY b l k x):kR b l (k+1):=λj z hj hz=>by
 by_cases e:j=k
 .subst e;rw[hy]at hz;cases hz;exact bE
 .exact h j z (by omega) hz
structure cr (b:ap) (l:List Int):Prop where
 len:(l.length:Int)=b.places
 range:lg l b.parts.length l.length
 fit:kR b l l.length
open Classical in
noncomputable def bZ (b:ap) (l:List Int):Int:=
 if(l.length:Int)=b.places then if lg l b.parts.length l.length then if kR b l l.length then 0 else 3 else 6 else 2
section
variable {b:ap} {l:List Int}
theorem kB (h:¬(l.length:Int)=b.places):2=bZ b l:=by unfold bZ;rw[zAH h]
theorem lT (h:(l.length:Int)=b.places) (h2:¬lg l b.parts.length l.length):6=bZ b l:=by unfold bZ;rw[zAI h,zAH h2]
theorem fT (h:(l.length:Int)=b.places) (h2:lg l b.parts.length l.length) (h3:¬kR b l l.length):3=bZ b l:=by unfold bZ;rw[zAI h,zAI h2,zAH h3]
theorem lU (h:cr b l):0=bZ b l:=by unfold bZ;rw[zAI h.len,zAI h.range,zAI h.fit]
theorem dx:bZ b l=0↔cr b l:=by
 refine⟨λh=>?_,λh=>(lU h).symm⟩;by_cases h1:(l.length:Int)=b.places
 .by_cases h2:lg l b.parts.length l.length
  .by_cases h3:kR b l l.length
   .exact⟨h1,h2,h3⟩
   .rw[<-fT h1 h2 h3]at h;cases h
  .rw[<-lT h1 h2]at h;cases h
 .rw[<-kB h1]at h;cases h
end
structure pS (w:World) (g:Nat) (v0 v1 v2 v3 v4:Value):Prop where
 c0:w.cell? ⟨g,0,none⟩=some v0
 c1:w.cell? ⟨g,1,none⟩=some v1
 c2:w.cell? ⟨g,2,none⟩=some v2
 c3:w.cell? ⟨g,3,none⟩=some v3
 c4:w.cell? ⟨g,4,none⟩=some v4
theorem pS.of {w1:World} {v0 v1 v2 v3 v4:Value} (h:Below (w.heap.size+1) (w.alloc (.cells #[v0,v1,v2,v3,v4] 26)) w1):pS w1 w.heap.size v0 v1 v2 v3 v4:=
 ⟨boxed h 0,boxed h 1,boxed h 2,boxed h 3,boxed h 4⟩
theorem pT (w:World) (v vl:Value) (b:ap) (l:List Int) (hb:ar w v b) (hl:am w vl l) (hp:1<=b.parts.length/\b.parts.length<=5):
 Calls ZP 18 #[v,vl] w (aY w λs=>s=bZ b l):=by
 have HB:=hid hb;obtain⟨v2,v3,v4,rfl,⟨a2,c2,h2,f2⟩,⟨a3,c3,⟨rfl,_,_,_,_⟩,_⟩,⟨a4,c4,⟨rfl,_,_,_,_⟩,_⟩⟩:=hb;obtain⟨al,cl,Gt,fl⟩:=hl;have H2:Hid (bA w v2 b.parts.length a2 c2/\_):=⟨h2,f2⟩
 have HL:Hid (bA w vl l.length al cl/\_):=⟨Gt,fl⟩
 obtain⟨rfl,l2,m2,n2,r2⟩:=h2;obtain⟨rfl,ll,ml,nl,rl⟩:=Gt;unfold maxLen at m2 ml;clear r2 f2 n2 rl fl nl;have jJ:wrap64 ((b.parts.length:Int)-1)=b.parts.length-1:=by unfold wrap64;omega
 go_enter ZF18,Tryz.ntmps18
 by_cases hlen:(l.length:Int)=b.places
 case neg=>
  go_wp2
  go_ret;exact aY.mk (r:=2) (kB hlen) ((Below.refl _ _).alloc (zAC _) _)
 have tg:=hid hlen;have bE:((l.length:Int)!=b.places)=false:=by simp[hlen]
 clear hlen;go_wp2
 go_loopw [5] (λi w1=>∃k:Nat,k<=l.length/\Hid (lg l b.parts.length k)/\i=.int .i64 k/\Hid (Below (w.heap.size+1) (w.alloc (.cells #[.int .i64 b.ac,.int .i64 b.places,.slice a2 b.parts.length c2,.slice a3 b.apart.length c3,.slice a4 b.aa.length c4] 26)) w1)) (λi _=>l.length-(intOf i).toNat)
 case atStart=>exact⟨0,zAR _,.zero _ _,rfl,Below.refl _ _⟩
 case round=>
  obtain⟨k,hk,hN,rfl,hB⟩:=hrel;obtain⟨g0,g1,g2,g3,g4⟩:=pS.of hB.o;by_cases az:k<l.length
  .obtain⟨⟨blk,off,sp⟩,x,rfl,hx,x0⟩:=HL.o.1.elem HL.o.2 az;obtain rfl:sp=none:=x0.1;have HX:=hid hx;have y0:=(x0.later (Kp.boxed hB.o)).2;simp only at y0;have j0:(k:Int)<(l.length:Int):=by omega
   clear x0 hx;by_cases e:0<=x/\x<=(b.parts.length:Int)-1
   .have HE:=hid e;have hd:(decide (0<=x)&&decide (x<=(b.parts.length:Int)-1))=true:=by simpa using e
    clear e;go_wp2
    go_quiet ((go_at_call 20;exact(pP _ _ _ _).mono λe w' h=>⟨h.1.trans (by rw[hd]),_,h.2⟩))
    go_wp2
    go_round
    case rel=>exact⟨k+1,by omega,hN.o.succ HX.o HE.o,by go_num,Below.drewN hB.o _⟩
    case measure=>simp[intOf];omega
   .have HE:=hid e
    have hd:(decide (0<=x)&&decide (x<=(b.parts.length:Int)-1))=false:=by
     cases hh:(decide (0<=x)&&decide (x<=(b.parts.length:Int)-1))with
     |false=>rfl
     |true=>exact absurd (by simpa using hh) e
    clear e;go_wp2
    go_quiet ((go_at_call 20;exact(pP _ _ _ _).mono λe w' h=>⟨h.1.trans (by rw[hd]),_,h.2⟩))
    go_wp2
    go_ret;exact aY.mk (r:=6) (lT tg.o λh=>HE.o (h k x az HX.o)) (Below.drewN (Below.boxed hB.o) _)
  .have HN:Hid (lg l b.parts.length l.length):=(by have e:k=l.length:=by omega
                                                   subst e;exact hN.o)
   clear hN;go_wp2
   go_loopw [6] (λi w1=>∃k:Nat,k<=l.length/\Hid (kR b l k)/\i=.int .i64 k/\Hid (Below (w.heap.size+1) (w.alloc (.cells #[.int .i64 b.ac,.int .i64 b.places,.slice a2 b.parts.length c2,.slice a3 b.apart.length c3,.slice a4 b.aa.length c4] 26)) w1)) (λi _=>l.length-(intOf i).toNat)
   case atStart=>exact⟨0,zAR _,.zero _ _,rfl,hB.o⟩
   case round=>
    clear g0 g1 g2 g3 g4 hB az hk;obtain⟨k,hk,hN,rfl,hB⟩:=hrel;have gg:=pS.of hB.o;by_cases az:k<l.length
    .obtain⟨⟨blk,off,sp⟩,x,rfl,hx,x0⟩:=HL.o.1.elem HL.o.2 az;obtain rfl:sp=none:=x0.1;obtain⟨xn,rfl⟩:=Int.eq_ofNat_of_zero_le (HN.o k x az hx).1;have hxr:=(HN.o k xn az hx).2;have HH:xn<b.parts.length:=by omega
     obtain⟨⟨pb,po,ps⟩,P,rfl,hP,_,_,_,_,_,vf,p5,L6⟩:=H2.o.1.elem H2.o.2 HH;obtain rfl:ps=none:=p5.1;have hf:=L6;obtain⟨af,cf,⟨rfl,_,_,_,_⟩,_⟩:=L6;have HX:Hid (l[k]?=some (xn:Int)/\b.parts[xn]?=some P):=⟨hx,hP⟩
     have G0:=λX:aj wr=>X.cell gg.c0;have G1:=λX:aj wr=>X.cell gg.c1;have G2:=λX:aj wr=>X.cell gg.c2;have G3:=λX:aj wr=>X.cell gg.c3;have G4:=λX:aj wr=>X.cell gg.c4;have Y0:=λX:aj wr=>X.cell (x0.later (Kp.boxed hB.o)).2;have Y5:=λX:aj wr=>X.cell (p5.later (Kp.boxed hB.o)).2;simp only[<-zBE]at Y0 Y5;have j0:(k:Int)<(l.length:Int):=by omega
     have hx2:(xn:Int)<(b.parts.length:Int):=by omega
     have hz:Hid (w.heap.size+1<=wr.heap.size):=by have:=hB.o.size;simp at this;exact(by omega:w.heap.size+1<=wr.heap.size)
     clear x0 hx hP p5 gg
     have rq:∀X:aj wr,Calls ZP 17 #[.slice af P.fits.length cf,.int .i64 k] X.1 (λe iu=>e=.returned (.bool (decide ((k:Int)∈P.fits)))/\∃Y:aj wr,iu=Y.1):=λX=>
      (xN _ _ _ _ ((hf.later (Kp.boxed hB.o)).later X.kp)).mono λe w' h=>⟨h.1,X.same h.2⟩
     by_cases nC:(k:Int)∈P.fits
     .have HF:Hid (∃P,b.parts[((xn:Int)).toNat]?=some P/\(k:Int)∈P.fits):=⟨P,by simpa using HX.o.2,nC⟩
      rw[zDD nC]at rq;clear nC;by_cases qT:0<k
      .obtain⟨b',z,yX,P6,z0⟩:=HL.o.1.elem HL.o.2 (show k-1<l.length by omega);cases yX;have Z0:=λX:aj wr=>X.cell (z0.later (Kp.boxed hB.o)).2;simp only at Z0;have HZ:Hid (l[k-1]?=some z):=P6;have pg:wrap64 ((k:Int)-1)=((k-1:Nat):Int):=by unfold wrap64;omega
       have iR:(0:Int)<(k:Int):=by omega
       have lN:((k-1:Nat):Int)<(l.length:Int):=by omega
       clear z0 P6
       have nD:∀X:aj wr,Calls ZP 63 #[.agg #[.int .i64 b.ac,.int .i64 b.places,.slice (some ⟨pb,po,none⟩) b.parts.length c2,.slice a3 b.apart.length c3,.slice a4 b.aa.length c4],.int .i64 z,.int .i64 xn] X.1 (λe iu=>(∃r,e=.returned (.bool r)/\Tr r (Apart b.apart z xn))/\∃Y:aj wr,iu=Y.1):=λX=>
        (qF _ _ _ _ _ ((HB.o.later (Kp.boxed hB.o)).later X.kp)).mono λe w' h=>⟨h.1,X.on h.2⟩
       by_cases rr:Apart b.apart z xn
       .have HA:=hid rr
        have nD:∀X:aj wr,Calls ZP 63 #[.agg #[.int .i64 b.ac,.int .i64 b.places,.slice (some ⟨pb,po,none⟩) b.parts.length c2,.slice a3 b.apart.length c3,.slice a4 b.aa.length c4],.int .i64 z,.int .i64 xn] X.1 (λe iu=>e=.returned (.bool true)/\∃Y:aj wr,iu=Y.1):=λX=>
         (nD X).mono λe w' ⟨⟨r,h1,h2⟩,h3⟩=>⟨by rw[h1,h2.2 rr],h3⟩
        clear rr;go_wp2
        refine ao (by kernel_rfl) (by kernel_rfl) ?_;repeat(go_big_quiet_step (first|(go_at_call 17;exact rq _)|(go_at_call 63;exact nD _)))
        refine wpQuiet_nil ?_;rintro _ ⟨X,rfl⟩;go_wp2
        go_ret;exact aY.mk (r:=3) (fT tg.o HN.o λh=>(h k _ az HX.o.1).Ug qT z HZ.o HA.o) ((Below.boxed hB.o).trans (X.2.mono (zAP (zCN _) hz.o)))
       .have HA:Hid (EY b l k xn):=⟨HF.o,λ_ y hy=>by rw[HZ.o]at hy;cases hy;exact rr⟩
        have nD:∀X:aj wr,Calls ZP 63 #[.agg #[.int .i64 b.ac,.int .i64 b.places,.slice (some ⟨pb,po,none⟩) b.parts.length c2,.slice a3 b.apart.length c3,.slice a4 b.aa.length c4],.int .i64 z,.int .i64 xn] X.1 (λe iu=>e=.returned (.bool false)/\∃Y:aj wr,iu=Y.1):=λX=>
         (nD X).mono λe w' ⟨⟨r,h1,h2⟩,h3⟩=>⟨by cases r with
           |false=>exact h1
           |true=>exact absurd h2.t rr,h3⟩
        clear rr;go_wp2
        refine ao (by kernel_rfl) (by kernel_rfl) ?_;repeat(go_big_quiet_step (first|(go_at_call 17;exact rq _)|(go_at_call 63;exact nD _)))
        refine wpQuiet_nil ?_;rintro _ ⟨X,rfl⟩;go_wp2
        go_round
        case rel=>exact⟨k+1,by omega,hN.o.succ HX.o.1 HA.o,by go_num,hB.o.trans (X.2.mono hz.o)⟩
        case measure=>simp[intOf];omega
      .have HA:Hid (EY b l k xn):=⟨HF.o,λh=>absurd h qT⟩
       have iR:¬(0:Int)<(k:Int):=by omega
       go_wp2
       refine ao (by kernel_rfl) (by kernel_rfl) ?_;repeat(go_big_quiet_step (first|(go_at_call 17;exact rq _)))
       refine wpQuiet_nil ?_;rintro _ ⟨X,rfl⟩;go_wp2
       go_round
       case rel=>exact⟨k+1,by omega,hN.o.succ HX.o.1 HA.o,by go_num,hB.o.trans (X.2.mono hz.o)⟩
       case measure=>simp[intOf];omega
     .have HF:=hid nC;rw[zDR nC]at rq;clear nC;go_wp2
      refine ao (by kernel_rfl) (by kernel_rfl) ?_;repeat(go_big_quiet_step (first|(go_at_call 17;exact rq _)))
      refine wpQuiet_nil ?_;rintro _ ⟨X,rfl⟩;go_wp2
      go_ret
      exact aY.mk (r:=3) (fT tg.o HN.o λh=>by
       obtain⟨P',UK,hm⟩:=(h k _ az HX.o.1).fits;simp only[Int.toNat_natCast]at UK;rw[HX.o.2]at UK;cases UK;exact HF.o hm) ((Below.boxed hB.o).trans (X.2.mono (zAP (zCN _) hz.o)))
    .go_wp2
     go_ret;have e:k=l.length:=by omega
     subst e;exact aY.mk (r:=0) (lU ⟨tg.o,HN.o,hN.o⟩) (Below.boxed hB.o)
end Go.Proofs.Cz
namespace Go.Proofs.Cz
open Go.RowKit
structure oO (b:ap) (t:bH):Prop where
 uJ:cr b t.parts
 S0:0<=t.lo/\t.lo<=t.hi/\t.hi<=99
def fU (b:ap) (k:Nat):Prop:=∀j t,j<k->b.aa[j]?=some t->oO b t
theorem fU.zero (b:ap):fU b 0:=λj y h=>by omega
theorem fU.succ {b:ap} {x:bH} {k:Nat} (h:fU b k) (hy:b.aa[k]?=some x) (bE:oO b x):fU b (k+1):=λj z hj hz=>by
 by_cases e:j=k
 .subst e;rw[hy]at hz;cases hz;exact bE
 .exact h j z (by omega) hz
structure Valid (b:ap):Prop where
 ac:1<=b.ac/\b.ac<=99
 places:1<=b.places/\b.places<=4
 parts:rL b
 iq:fy b
 many:b.aa.length<=4
 aa:fU b b.aa.length
end Go.Proofs.Cz
namespace Go.RowKit
theorem Below.jt {w w1:World} {o:Obj} (h:Below (w.alloc o).heap.size (w.alloc o) w1):Below (w.heap.size+1) (w.alloc o) w1:=by simpa using h
end Go.RowKit
namespace Go.Proofs.Cz
open Go.RowKit
end Go.Proofs.Cz
namespace Go.RowKit
theorem Below.j6 {w w1 w2:World} {o:Obj} (h:Below (w.alloc o).heap.size (w.alloc o) w1) (k:Below w1.heap.size w1 w2):Below (w.heap.size+1) (w.alloc o) w2:=Below.jt (h.trans (k.mono h.size))
end Go.RowKit
namespace Go.Proofs.Cz
open Go.RowKit
theorem oP (w:World) (v:Value) (b:ap) (hb:ar w v b) (hs:fS b):
 Calls ZP 32 #[v] w (aY w λs=>s=0↔Valid b):=by
 have HB:=hid hb;obtain⟨v2,v3,v4,rfl,⟨a2,c2,⟨rfl,_,_,_,_⟩,_⟩,⟨a3,c3,⟨rfl,_,_,_,_⟩,_⟩,⟨a4,c4,h4,f4⟩⟩:=hb;have H4:Hid (bA w v4 b.aa.length a4 c4/\_):=⟨h4,f4⟩
 obtain⟨rfl,l4,m4,n4,r4⟩:=h4;unfold maxLen at m4;clear r4 f4 n4;go_enter ZF32,Tryz.ntmps32
 have dh:=HB.o.later (Kp.alloc w (.cells #[.int .i64 b.ac,.int .i64 b.places,.slice a2 b.parts.length c2,.slice a3 b.apart.length c3,.slice a4 b.aa.length c4] 26))
 go_wp2_with(first
  |(go_at_call 20;refine(N0 _ _ _ _).mono ?_;rintro e w' ⟨r,rfl,hr,rfl⟩;cases r)
  |(go_at_call 79;refine(td _ _ _ dh hs hr.t).mono ?_;rintro e w1 ⟨⟨r,rfl,S3⟩,qB⟩;by_cases Xv:r=0;obtain⟨g0,g1,g2,g3,g4⟩:=pS.of qB.jt)
  |(go_at_call 80;refine(tf _ _ _ (HB.o.later (Kp.boxed qB.jt)) (S3.1 Xv).many).mono ?_;rintro e w2 ⟨⟨r2,rfl,PY⟩,ud⟩;by_cases UL:r2=0;obtain⟨q0,q1,q2,q3,q4⟩:=pS.of (qB.j6 ud)))
 .go_ret;exact aY.mk (r:=1) (bad (by decide) λh=>hr.f h.ac) ((Below.refl _ _).alloc (zAC _) _)
 .go_ret;exact aY.mk (r:=1) (bad (by decide) λh=>hr.f h.places) ((Below.refl _ _).alloc (zAC _) _)
 .rename_i hm4;go_ret;exact aY.mk (r:=2) (bad (by decide) λh=>by have:=h.many;omega) (Below.boxed (qB.j6 ud))
 .have HV:Hid ((1<=b.ac/\b.ac<=99)/\(1<=b.places/\b.places<=4)/\rL b/\fy b/\b.aa.length<=4):=by
   exact⟨Tr.t (by assumption),hr.t,S3.1 Xv,PY.1 UL,by omega⟩
  have L7:Hid (Below (w.heap.size+1) (w.alloc (.cells #[.int .i64 b.ac,.int .i64 b.places,.slice a2 b.parts.length c2,.slice a3 b.apart.length c3,.slice a4 b.aa.length c4] 26)) w2):=qB.j6 ud;clear hr S3 PY qB ud Xv UL q0 q1 q2 q3 q4 g0 g1 g2 g3 g4;go_loopw [5] (λi w1=>∃k:Nat,k<=b.aa.length/\Hid (fU b k)/\i=.int .i64 k/\Hid (Below (w.heap.size+1) (w.alloc (.cells #[.int .i64 b.ac,.int .i64 b.places,.slice a2 b.parts.length c2,.slice a3 b.apart.length c3,.slice a4 b.aa.length c4] 26)) w1)) (λi _=>b.aa.length-(intOf i).toNat)
  case atStart=>exact⟨0,zAR _,.zero _,rfl,L7⟩
  case round=>
   obtain⟨k,hk,hN,rfl,hB⟩:=hrel;have gg:=pS.of hB.o;by_cases az:k<b.aa.length
   .obtain⟨⟨blk,off,sp⟩,t,rfl,hx,⟨vf,x0,hf⟩,x1,x2⟩:=H4.o.1.elem H4.o.2 az;obtain rfl:sp=none:=x0.1;have Ei:=hf;obtain⟨af,cf,⟨rfl,_,_,_,_⟩,_⟩:=hf;have HX:=hid hx;obtain⟨s0,s1,s2,s3,s4⟩:=gg;have G0:=λX:aj wr=>X.cell s0;have G1:=λX:aj wr=>X.cell s1;have G2:=λX:aj wr=>X.cell s2;have G3:=λX:aj wr=>X.cell s3;have G4:=λX:aj wr=>X.cell s4;have Y0:=λX:aj wr=>X.cell (x0.later (Kp.boxed hB.o)).2;have Y1:=λX:aj wr=>X.cell (x1.later (Kp.boxed hB.o)).2;have Y2:=λX:aj wr=>X.cell (x2.later (Kp.boxed hB.o)).2;simp only[<-zBE]at Y0 Y1 Y2;have j0:(k:Int)<(b.aa.length:Int):=by omega
    have hz:Hid (w.heap.size+1<=wr.heap.size):=by have:=hB.o.size;simp at this;exact(by omega:w.heap.size+1<=wr.heap.size)
    have P7:∀X:aj wr,Calls ZP 18 #[.agg #[.int .i64 b.ac,.int .i64 b.places,.slice a2 b.parts.length c2,.slice a3 b.apart.length c3,.slice (some ⟨blk,off,none⟩) b.aa.length c4],.slice af t.parts.length cf] X.1 (λe iu=>e=.returned (.int .i64 (bZ b t.parts))/\∃Y:aj wr,iu=Y.1):=λX=>
     (pT _ _ _ _ _ ((HB.o.later (Kp.boxed hB.o)).later X.kp) ((Ei.later (Kp.boxed hB.o)).later X.kp) HV.o.2.2.1.many).mono λe w' ⟨⟨r,h1,h2⟩,h3⟩=>⟨by rw[h1,h2],X.on h3⟩
    clear Ei x0 x1 x2 hx;by_cases S4:bZ b t.parts=0
    .have HM:Hid (cr b t.parts):=dx.1 S4;go_wp2
     refine ao (by kernel_rfl) (by kernel_rfl) ?_;repeat(go_big_quiet_step (first|(go_at_call 18;exact P7 _)))
     refine wpQuiet_nil ?_;rintro _ ⟨X,rfl⟩;go_wp2_with(go_at_call 81;refine(ta _ _ _ _ _).mono ?_;rintro e w' ⟨r,rfl,hr,rfl⟩;cases r)
     .go_ret;exact aY.mk (r:=1) (bad (by decide) λh=>hr.f (h.aa k _ az HX.o).S0) (Below.alloc ((Below.boxed hB.o).trans (X.2.mono (zAP (zCN _) hz.o))) (zAP (zAP (zCN _) hz.o) X.2.size) _)
     .have HT:Hid (oO b t):=⟨HM.o,hr.t⟩
      clear hr;go_round
      case rel=>exact⟨k+1,by omega,hN.o.succ HX.o HT.o,by go_num,Below.alloc (hB.o.trans (X.2.mono hz.o)) (zAP hz.o X.2.size) _⟩
      case measure=>simp[intOf];omega
    .have HM:Hid (¬cr b t.parts):=λh=>S4 (dx.2 h);go_wp2
     refine ao (by kernel_rfl) (by kernel_rfl) ?_;repeat(go_big_quiet_step (first|(go_at_call 18;exact P7 _)))
     refine wpQuiet_nil ?_;rintro _ ⟨X,rfl⟩;go_wp2
     go_ret;exact aY.mk (bad S4 λh=>HM.o (h.aa k _ az HX.o).uJ) ((Below.boxed hB.o).trans (X.2.mono (zAP (zCN _) hz.o)))
   .have HN:Hid (fU b b.aa.length):=(by have e:k=b.aa.length:=by omega
                                        subst e;exact hN.o)
    obtain⟨s0,s1,s2,s3,s4⟩:=gg;go_wp2
    go_ret;exact aY.mk (r:=0) ⟨λ_=>⟨HV.o.1,HV.o.2.1,HV.o.2.2.1,HV.o.2.2.2.1,HV.o.2.2.2.2,HN.o⟩,λ_=>rfl⟩ (Below.boxed hB.o)
 .go_ret;exact aY.mk (bad UL λh=>UL (PY.2 h.iq)) (Below.boxed (qB.j6 ud))
 .go_ret;exact aY.mk (bad Xv λh=>Xv (S3.2 h.parts)) (Below.boxed qB.jt)
end Go.Proofs.Cz
namespace Go.Proofs.Cz
open Go.RowKit
variable {b:ap} {t:bH}
open Classical in
noncomputable def dE (n:Int) (l:List (Int×Int)) (k:Nat):Int:=match l[k]? with
 |none=>0
 |some x=>if(0<=x.1/\x.1<=n-1)/\0<=x.2/\x.2<=n-1 then(if x.1<=x.2 then(if∃i,i<k/\l[i]?=some x then 5 else 0)else 7)else 6
noncomputable def ci (n:Int) (l:List (Int×Int)):Int:=if l.length<=5 then scan (dE n l) l.length else 2
section
variable {n:Int} {l:List (Int × Int)} {k:Nat} {x:Int × Int}
theorem Kk (hx:l[k]?=some x) (h:¬((0<=x.1/\x.1<=n-1)/\0<=x.2/\x.2<=n-1)):dE n l k=6:=by unfold dE;rw[hx];simp only;rw[zAH h]
theorem S5 (hx:l[k]?=some x) (h:(0<=x.1/\x.1<=n-1)/\0<=x.2/\x.2<=n-1) (h2:¬x.1<=x.2):dE n l k=7:=by unfold dE;rw[hx];simp only;rw[zAI h,zAH h2]
theorem S6 (hx:l[k]?=some x) (h:pR n x) {i:Nat} (hi:i<k) (hy:l[i]?=some x):dE n l k=5:=by unfold dE;rw[hx];simp only;rw[zAI ⟨h.one,h.two⟩,zAI h.le,zAI ⟨i,hi,hy⟩]
theorem Kl (hx:l[k]?=some x) (h:pR n x) (h2:gH l x k):dE n l k=0:=by unfold dE;rw[hx];simp only;rw[zAI ⟨h.one,h.two⟩,zAI h.le,zAH (λ⟨i,hi,hy⟩=>h2 i x hi hy rfl)]
theorem Dl (hm:l.length<=5):ci n l=scan (dE n l) l.length:=by unfold ci;rw[zAI hm]
theorem nE:ci b.parts.length b.apart=0↔fy b:=by
 unfold ci;constructor
 .intro h;split at h
  .rename_i hm;refine⟨hm,λj x hj hx=>?_⟩;have h1:=eW.1 h j hj;unfold dE at h1;rw[hx]at h1;simp only at h1;split at h1
   .rename_i h2;split at h1
    .rename_i h3;split at h1
     .cases h1
     .rename_i h4;exact⟨⟨h2.1,h2.2,h3⟩,λi y hi hy e=>h4 ⟨i,hi,by rw[<-e];exact hy⟩⟩
    .cases h1
   .cases h1
  .cases h
 .intro h;rw[zAI h.many,eW];intro j hj;have hx:b.apart[j]?=some b.apart[j]:=zAJ hj;have h1:=h.all j _ hj hx;exact Kl hx h1.1 h1.2
end
theorem kC:bI b.places b.parts=0↔rL b:=by
 unfold bI;constructor
 .intro h;split at h
  .rename_i hm;refine⟨hm,λj x hj hx=>?_⟩;have h1:=eW.1 h j hj;unfold cW at h1;rw[hx]at h1;simp only at h1;split at h1
   .rename_i h2;split at h1
    .cases h1
    .rename_i h3;split at h1
     .rename_i h4;exact⟨⟨h2,h4.1,h4.2.1,h4.2.2.1,h4.2.2.2,qD.1 h1⟩,λi y hi hy e=>h3 ⟨i,y,hi,hy,e⟩⟩
     .cases h1
   .cases h1
  .cases h
 .intro h;rw[zAI h.many,eW];intro j hj;have hx:b.parts[j]?=some b.parts[j]:=zAJ hj;have h1:=h.all j _ hj hx;rw[Kj hx h1.1.name h1.2 ⟨h1.1.cost,h1.1.bY,h1.1.time,h1.1.wide⟩];exact qD.2 h1.1.N3
noncomputable def dF (b:ap) (k:Nat):Int:=match b.aa[k]? with
 |none=>0
 |some t=>if bZ b t.parts=0 then(if 0<=t.lo/\t.lo<=t.hi/\t.hi<=99 then 0 else 1)else bZ b t.parts
noncomputable def dy (b:ap):Int:=if b.aa.length<=4 then scan (dF b) b.aa.length else 2
theorem EZ {k:Nat} (hx:b.aa[k]?=some t) (h:oO b t):dF b k=0:=by unfold dF;rw[hx];simp only;rw[zAI (dx.2 h.uJ),zAI h.S0]
theorem N5 {k:Nat} (hx:b.aa[k]?=some t) (h:cr b t.parts) (h2:¬(0<=t.lo/\t.lo<=t.hi/\t.hi<=99)):dF b k=1:=by unfold dF;rw[hx];simp only;rw[zAI (dx.2 h),zAH h2]
theorem N6 {k:Nat} (hx:b.aa[k]?=some t) (h:bZ b t.parts≠0):dF b k=bZ b t.parts:=by unfold dF;rw[hx];simp only;rw[zAH h]
theorem Au (hm:b.aa.length<=4):dy b=scan (dF b) b.aa.length:=by unfold dy;rw[zAI hm]
theorem qG:dy b=0↔b.aa.length<=4/\fU b b.aa.length:=by
 unfold dy;constructor
 .intro h;split at h
  .rename_i hm;refine⟨hm,λj t hj ht=>?_⟩;have h1:=eW.1 h j hj;unfold dF at h1;rw[ht]at h1;simp only at h1;split at h1
   .rename_i h2;split at h1
    .rename_i h3;exact⟨dx.1 h2,h3⟩
    .cases h1
   .rename_i h2;exact absurd h1 h2
  .cases h
 .rintro⟨hm,h⟩;rw[zAI hm,eW];intro j hj;have hx:b.aa[j]?=some b.aa[j]:=zAJ hj;exact EZ hx (h j _ hj hx)
noncomputable def cJ (b:ap):Int:=
 if(1<=b.ac/\b.ac<=99)/\1<=b.places/\b.places<=4 then
  (if bI b.places b.parts=0 then(if ci b.parts.length b.apart=0 then dy b else ci b.parts.length b.apart)else bI b.places b.parts)
 else 1
theorem pU:cJ b=0↔Valid b:=by
 unfold cJ;constructor
 .intro h;split at h
  .rename_i h1;split at h
   .rename_i h2;split at h
    .rename_i h3;have h4:=qG.1 h;exact⟨h1.1,h1.2,kC.1 h2,nE.1 h3,h4.1,h4.2⟩
    .rename_i h3;exact absurd h h3
   .rename_i h2;exact absurd h h2
  .cases h
 .intro h;rw[zAI ⟨h.ac,h.places⟩,zAI (kC.2 h.parts),zAI (nE.2 h.iq),qG];exact⟨h.many,h.aa⟩
theorem N7 (w:World) (v:Value) (b:ap) (hb:ar w v b):
 Calls ZP 6 #[v] w (cI w λr=>r=true->fS b/\Valid b):=by
 have HB:=hid hb;obtain⟨v2,v3,v4,rfl,⟨a2,c2,⟨rfl,_,_,_,_⟩,_⟩,⟨a3,c3,⟨rfl,_,_,_,_⟩,_⟩,⟨a4,c4,⟨rfl,_,_,_,_⟩,_⟩⟩:=hb;go_enter ZF6,Tryz.ntmps6
 have dh:=HB.o.later (Kp.alloc w (.cells #[.int .i64 b.ac,.int .i64 b.places,.slice a2 b.parts.length c2,.slice a3 b.apart.length c3,.slice a4 b.aa.length c4] 26))
 go_wp2_with(first
  |(go_at_call 33;refine(GI _ _ _ dh).mono ?_;rintro e w1 ⟨⟨r,rfl,S3⟩,qB⟩;cases r;have HS:Hid (fS b):=S3 rfl;clear S3;obtain⟨g0,g1,g2,g3,g4⟩:=pS.of qB.jt)
  |(go_at_call 32;refine(oP _ _ _ (HB.o.later (Kp.boxed qB.jt)) HS.o).mono ?_;rintro e w2 ⟨⟨r2,rfl,PY⟩,ud⟩;by_cases UL:r2=0))
 .have HV:Hid (Valid b):=PY.1 UL;go_ret;exact cI.mk (λ_=>⟨HS.o,HV.o⟩) (Below.boxed (qB.j6 ud))
 .go_ret;exact cI.mk (λh=>by simp_all) (Below.boxed (qB.j6 ud))
 .go_ret;exact cI.mk (λh=>by cases h) (Below.boxed qB.jt)
end Go.Proofs.Cz
