/- A part. Conditions: none. -/
import Derived.Test.YtehbindidbgacaaGreatDoorT25
import Derived.Laws.StructEq
set_option linter.all false
set_option maxHeartbeats 8000000
namespace Go.Proofs.Cz
open Go.RowKit
variable {k:Nat} {n p q:Int} {w w0:World} {x:Int×Int}
@[go_sem] theorem J8:ZP.eqGuardType ZP.depth 125=false:=by kernel_rfl
structure xq (n:Int) (x:Int×Int):Prop where
 one:0<=x.1/\x.1<=n-1
 two:0<=x.2/\x.2<=n-1
 le:x.1<=x.2
def gi (l:List (Int×Int)) (x:Int×Int) (k:Nat):Prop:=∀j y,j<k->l[j]?=some y->y≠x
theorem gi.zero (l:List (Int×Int)) (x:Int×Int):gi l x 0:=fun j y h=>by omega
theorem gi.succ {l:List (Int×Int)} {y:Int×Int} (h:gi l x k) (hy:l[k]?=some y) (bC:y≠x):gi l x (k+1):=fun j z hj hz=>by
 by_cases e:j=k
 .subst e;rw[hy]at hz;cases hz;exact bC
 .exact h j z (by omega) hz
def gO (n:Int) (l:List (Int×Int)) (k:Nat):Prop:=∀j x,j<k->l[j]?=some x->xq n x/\gi l x j
theorem gO.zero (n:Int) (l:List (Int×Int)):gO n l 0:=fun j y h=>by omega
theorem gO.succ {l:List (Int×Int)} (h:gO n l k) (hx:l[k]?=some x) (h1:xq n x) (h2:gi l x k):gO n l (k+1):=fun j z hj hz=>by
 by_cases e:j=k
 .subst e;rw[hx]at hz;cases hz;exact⟨h1,h2⟩
 .exact h j z (by omega) hz
structure jR (b:aW):Prop where
 many:b.apart.length<=5
 all:gO b.parts.length b.apart b.apart.length
theorem oV (w:World) (v:Value) (b:aW) (hb:az w v b) (hp:1<=b.parts.length/\b.parts.length<=5):
 Calls ZP 80 #[v] w (bT w fun s=>s=0↔jR b):=by
 obtain⟨v2,v3,v4,rfl,⟨a2,c2,h2,f2⟩,⟨a3,c3,h3,f3⟩,h4⟩:=hb;have H3:Hid (cm w v3 b.apart.length a3 c3/\_):=⟨h3,f3⟩
 obtain⟨rfl,l2,m2,n2,r2⟩:=h2;obtain⟨rfl,l3,m3,n3,r3⟩:=h3;unfold maxLen at m2 m3;clear r2 f2 n2 r3 f3 n3 h4;have nB:wrap64 ((b.parts.length:Int)-1)=b.parts.length-1:=by unfold wrap64;omega
 go_enter ZF80,Tryz.ntmps80
 go_wp2
 .rename_i hm;go_ret;exact bT.mk (r:=2) (bad (by decide) fun h=>by have:=h.many;omega) ((Below.refl _ _).alloc (Nat.le_refl _) _)
 rename_i hm;go_loopw [3] (fun i w1=>∃k:Nat,k<=b.apart.length/\Hid (gO b.parts.length b.apart k)/\i=.int .i64 k/\Hid (Below (w.heap.size+1) (w.alloc (.cells #[.int .i64 b.ap,.int .i64 b.places,.slice a2 b.parts.length c2,.slice a3 b.apart.length c3,v4] 26)) w1)) (fun i _=>b.apart.length-(intOf i).toNat)
 case atStart=>exact⟨0,Nat.zero_le _,.zero _ _,rfl,Below.refl _ _⟩
 case round=>
  obtain⟨k,hk,hN,rfl,hB⟩:=hrel;have g2:=boxed hB.o 2;have g3:=boxed hB.o 3;simp only[List.getElem?_toArray,List.getElem?_cons_succ,List.getElem?_cons_zero]at g2 g3;by_cases ao:k<b.apart.length
  .obtain⟨⟨blk,off,sp⟩,⟨xa,xb⟩,rfl,hx,x0,x1⟩:=H3.o.1.elem H3.o.2 ao;obtain rfl:sp=none:=x0.1;have HX:=hid hx;have y0:=(x0.later (Kp.boxed hB.o)).2;have y1:=(x1.later (Kp.boxed hB.o)).2;simp only[<-Nat.add_assoc]at y0 y1;have sw:w.heap.size+1<=wr.heap.size:=by have:=hB.o.size;simp at this;omega
   have AV:blk<w.heap.size:=x0.lt;have LY:∀o,(wr.alloc o).cell? ⟨w.heap.size,2,none⟩=some (.slice a2 b.parts.length c2):=fun o=>(di (by show w.heap.size<_;omega) o).trans g2;have ZM:∀o,(wr.alloc o).cell? ⟨w.heap.size,3,none⟩=some (.slice (some ⟨blk,off,none⟩) b.apart.length c3):=fun o=>(di (by show w.heap.size<_;omega) o).trans g3;clear x0 x1 hx;go_wp2_with(go_at_call 20;refine(FH _ _ _ _).mono ?_;rintro e w' ⟨r,rfl,hr,rfl⟩;cases r)
   .go_ret;exact bT.mk (r:=6) (bad (by decide) fun h=>hr.f (h.all k _ ao HX.o).1.one) (Below.one (Below.boxed hB.o) (by omega) _ 0)
   .go_ret;exact bT.mk (r:=6) (bad (by decide) fun h=>hr.f (h.all k _ ao HX.o).1.two) (Below.one (Below.boxed hB.o) (by omega) _ 0)
   .rename_i tK;go_ret;exact bT.mk (r:=7) (bad (by decide) fun h=>absurd (h.all k _ ao HX.o).1.le (by simp only;omega)) (Below.one (Below.boxed hB.o) (by omega) _ 0)
   rename_i qe hle;have HK:Hid (xq b.parts.length (xa,xb)):=⟨qe.t,hr.t,hle⟩
   have HL:=hid ao;clear hr qe hle;go_loopw [5] (fun i w2=>∃m:Nat,m<=k/\Hid (gi b.apart (xa,xb) m)/\i=.int .i64 m/\∃n,w2=(wr.alloc (.cells #[.int .i64 xa,.int .i64 xb] 125)).drewN n) (fun i _=>k-(intOf i).toNat)
   case atStart=>exact⟨0,Nat.zero_le _,.zero _ _,rfl,0,rfl⟩
   case round=>
    obtain⟨m,Lc,hM,rfl,n0,rfl⟩:=hrel;by_cases gD:m<k
    .obtain⟨b',⟨ya,yb⟩,CW,hy,z0,z1⟩:=H3.o.1.elem H3.o.2 (show m<b.apart.length by have:=HL.o;omega);cases CW;have q0:=((z0.later (Kp.boxed hB.o)).later (Kp.alloc wr (.cells #[.int .i64 xa,.int .i64 xb] 125))).2;have q1:=((z1.later (Kp.boxed hB.o)).later (Kp.alloc wr (.cells #[.int .i64 xa,.int .i64 xb] 125))).2;simp only[<-Nat.add_assoc]at q0 q1;have HY:=hid hy;have NC:(m:Int)<(k:Int):=by omega
     have J7:(m:Int)<(b.apart.length:Int):=by omega
     clear hy z0 z1;have UR:=Below.one (Below.boxed hB.o) (by omega) (.cells #[.int .i64 xa,.int .i64 xb] 125);have nK:=hid UR;clear UR;by_cases e1:ya=xa
     .by_cases e2:yb=xb
      .subst e1 e2;go_wp2
       go_quiet (fail)
       go_wp2
       go_ret;exact bT.mk (r:=5) (bad (by decide) fun h=>(h.all k _ HL.o HX.o).2 m _ gD HY.o rfl) (Below.drewN (nK.o _) _)
      .subst e1;have bC:Hid ((ya,yb)≠(ya,xb)):=(fun h=>e2 (by cases h;rfl):(ya,yb)≠(ya,xb))
       go_wp2
       go_quiet (fail)
       go_wp2
       go_round
       case rel=>exact⟨m+1,by omega,hM.o.succ HY.o bC.o,by go_num,_,rfl⟩
       case measure=>simp[intOf];omega
     .have bC:Hid ((ya,yb)≠(xa,xb)):=(fun h=>e1 (by cases h;rfl):(ya,yb)≠(xa,xb))
      go_wp2
      go_quiet (fail)
      go_wp2
      go_round
      case rel=>exact⟨m+1,by omega,hM.o.succ HY.o bC.o,by go_num,_,rfl⟩
      case measure=>simp[intOf];omega
    .have HM:Hid (gi b.apart (xa,xb) k):=(by have e:m=k:=by omega
                                             subst e;exact hM.o)
     go_wp2
     go_round
     case rel=>exact⟨k+1,by omega,hN.o.succ HX.o HK.o HM.o,by go_num,Below.one hB.o (by omega) _ _⟩
     case measure=>simp[intOf];omega
  .go_wp2
   go_ret;have e:k=b.apart.length:=by omega
   subst e;exact bT.mk (r:=0) ⟨fun _=>⟨by omega,hN.o⟩,fun _=>rfl⟩ (Below.boxed hB.o)
def sK (x:Int×Int) (p q:Int):Prop:=x.1=p/\x.2=q\/x.1=q/\x.2=p
def Apart (l:List (Int×Int)) (p q:Int):Prop:=∃x∈l,sK x p q
def mZ (l:List (Int×Int)) (p q:Int) (k:Nat):Prop:=∀j x,j<k->l[j]?=some x->¬sK x p q
theorem mZ.zero (l:List (Int×Int)) (p q:Int):mZ l p q 0:=fun j y h=>by omega
theorem mZ.succ {l:List (Int×Int)} (h:mZ l p q k) (hy:l[k]?=some x) (bC:¬sK x p q):mZ l p q (k+1):=fun j z hj hz=>by
 by_cases e:j=k
 .subst e;rw[hy]at hz;cases hz;exact bC
 .exact h j z (by omega) hz
theorem mZ.all {l:List (Int×Int)} (h:mZ l p q l.length):¬Apart l p q:=fun⟨x,hm,hx⟩=>by
 obtain⟨j,hj,rfl⟩:=List.getElem_of_mem hm;exact h j _ hj (List.getElem?_eq_getElem hj) hx
theorem uT (w:World) (v:Value) (b:aW) (p q:Int) (hb:az w v b):
 Calls ZP 63 #[v,.int .i64 p,.int .i64 q] w (dc w fun r=>Tr r (Apart b.apart p q)):=by
 obtain⟨v2,v3,v4,rfl,h2,⟨a3,c3,h3,f3⟩,h4⟩:=hb;have H3:Hid (cm w v3 b.apart.length a3 c3/\_):=⟨h3,f3⟩
 obtain⟨rfl,l3,m3,n3,r3⟩:=h3;obtain⟨a2,c2,⟨rfl,_,_,_,_⟩,_⟩:=h2;obtain⟨a4,c4,⟨rfl,_,_,_,_⟩,_⟩:=h4;unfold maxLen at m3;clear r3 f3 n3;go_enter ZF63,Tryz.ntmps63
 go_wp2
 go_loopw [7] (fun i w1=>∃k:Nat,k<=b.apart.length/\Hid (mZ b.apart p q k)/\i=.int .i64 k/\Hid (Below (w.heap.size+1) (w.alloc (.cells #[.int .i64 b.ap,.int .i64 b.places,.slice a2 b.parts.length c2,.slice a3 b.apart.length c3,.slice a4 b.ah.length c4] 26)) w1)) (fun i _=>b.apart.length-(intOf i).toNat)
 case atStart=>exact⟨0,Nat.zero_le _,.zero _ _ _,rfl,Below.refl _ _⟩
 case round=>
  obtain⟨k,hk,hN,rfl,hB⟩:=hrel;have g3:=boxed hB.o 3;simp only[List.getElem?_toArray,List.getElem?_cons_succ,List.getElem?_cons_zero]at g3;by_cases ao:k<b.apart.length
  .obtain⟨⟨blk,off,sp⟩,⟨xa,xb⟩,rfl,hx,x0,x1⟩:=H3.o.1.elem H3.o.2 ao;obtain rfl:sp=none:=x0.1;have HX:=hid hx;have y0:=(x0.later (Kp.boxed hB.o)).2;have y1:=(x1.later (Kp.boxed hB.o)).2;simp only[<-Nat.add_assoc]at y0 y1;have sw:w.heap.size+1<=wr.heap.size:=by have:=hB.o.size;simp at this;omega
   have HZ:=hid sw;clear x0 x1 hx;by_cases e:sK (xa,xb) p q
   .have hm:=List.mem_of_getElem? HX.o;rcases(show xa=p/\xb=q\/xa=q/\xb=p from e)with⟨rfl,rfl⟩|⟨rfl,rfl⟩
    .go_wp2
     go_ret;exact dc.mk (.yes ⟨_,hm,.inl ⟨rfl,rfl⟩⟩) (Below.one (Below.boxed hB.o) (by omega) _ 0)
    .by_cases e3:xa=xb
     .subst e3;go_wp2
      go_ret;exact dc.mk (.yes ⟨_,hm,.inl ⟨rfl,rfl⟩⟩) (Below.one (Below.boxed hB.o) (by omega) _ 0)
     .go_wp2
      go_ret;exact dc.mk (.yes ⟨_,hm,.inr ⟨rfl,rfl⟩⟩) (Below.one (Below.boxed hB.o) (by omega) _ 0)
   .have HE:=hid e;have e1:¬(xa=p/\xb=q):=fun h=>e (.inl h);have e2:¬(xa=q/\xb=p):=fun h=>e (.inr h);clear e;by_cases a1:xa=p
    .subst a1;have a2:¬xb=q:=fun h=>e1 ⟨rfl,h⟩;clear e1;by_cases a3:xa=q
     .subst a3;clear e2;go_wp2
      go_round
      case rel=>exact⟨k+1,by omega,hN.o.succ HX.o HE.o,by go_num,Below.one hB.o HZ.o _ 0⟩
      case measure=>simp[intOf];omega
     .clear e2;go_wp2
      go_round
      case rel=>exact⟨k+1,by omega,hN.o.succ HX.o HE.o,by go_num,Below.one hB.o HZ.o _ 0⟩
      case measure=>simp[intOf];omega
    .clear e1;by_cases a3:xa=q
     .subst a3;have a4:¬xb=p:=fun h=>e2 ⟨rfl,h⟩;clear e2;go_wp2
      go_round
      case rel=>exact⟨k+1,by omega,hN.o.succ HX.o HE.o,by go_num,Below.one hB.o HZ.o _ 0⟩
      case measure=>simp[intOf];omega
     .clear e2;go_wp2
      go_round
      case rel=>exact⟨k+1,by omega,hN.o.succ HX.o HE.o,by go_num,Below.one hB.o HZ.o _ 0⟩
      case measure=>simp[intOf];omega
  .go_wp2
   go_ret;have e:k=b.apart.length:=by omega
   subst e;exact dc.mk (.no hN.o.all) (Below.boxed hB.o)
def aj (w0:World):Type:={w:World//Below w0.heap.size w0 w}
instance (w0 : World) : Nonempty (aj w0) := ⟨⟨w0, Below.refl _ _⟩⟩
theorem aj.cell (X:aj w0) {a:Addr} {v:Value} (h:w0.cell? a=some v):X.1.cell? a=some v:=by
 have hk:a.block<w0.heap.size:=by
  unfold World.cell? at h;split at h
  .rename_i hx;exact(Array.getElem?_eq_some_iff.1 hx).1
  .cases h
 exact(World.cell?_of_block (X.2.block _ hk)).trans h
theorem aj.kp (X:aj w0):Kp w0 X.1:=Kp.of X.2
theorem aj.on (X:aj w0) (h:Below X.1.heap.size X.1 w):∃Y:aj w0,w=Y.1:=⟨⟨w,X.2.trans (h.mono X.2.size)⟩,rfl⟩
theorem aj.same (X:aj w0) (h:w=X.1):∃Y:aj w0,w=Y.1:=⟨X,h⟩
theorem aS {P:Program} {id:Nat} {Q:Exit->Act->World->Prop} {a:Act} {l:List Oper} (hm:P.follows .mixedOrders=true) (hB:Region.lexB .any l.toArray=true)
 (h:wpQuiet P l.toArray (fun w'=>∃X:aj w,w'=X.1) (fun a'=>∀w',(∃X:aj w,w'=X.1)->Q .normal a' w') l a):(Code.region id l.toArray true).wp P Q a w:=
 wp_region_quiet (C:=fun w'=>∃X:aj w,w'=X.1) hm hB ⟨⟨_,Below.drewN (Below.refl _ w) 1⟩,rfl⟩ (by simpa using h)
def kJ (l:List Int) (n:Int) (k:Nat):Prop:=∀(j:Nat) (x:Int),j<k->l[j]?=some x->0<=x/\x<=n-1
theorem kJ.zero (l:List Int) (n:Int):kJ l n 0:=fun j y h=>by omega
theorem kJ.succ {l:List Int} {x:Int} (h:kJ l n k) (hy:l[k]?=some x) (bC:0<=x/\x<=n-1):kJ l n (k+1):=fun j z hj hz=>by
 by_cases e:j=k
 .subst e;rw[hy]at hz;cases hz;exact bC
 .exact h j z (by omega) hz
structure yR (b:aW) (l:List Int) (j:Nat) (x:Int):Prop where
 fits:∃P,b.parts[x.toNat]?=some P/\(j:Int)∈P.fits
 Lu:0<j->∀y,l[j-1]?=some y->¬Apart b.apart y x
def kd (b:aW) (l:List Int) (k:Nat):Prop:=∀j x,j<k->l[j]?=some x->yR b l j x
theorem kd.zero (b:aW) (l:List Int):kd b l 0:=fun j y h=>by omega
theorem kd.succ {b:aW} {l:List Int} {x:Int} (h:kd b l k) (hy:l[k]?=some x) (bC:yR b l k x):kd b l (k+1):=fun j z hj hz=>by
 by_cases e:j=k
 .subst e;rw[hy]at hz;cases hz;exact bC
 .exact h j z (by omega) hz
structure gZ (b:aW) (l:List Int):Prop where
 len:(l.length:Int)=b.places
 range:kJ l b.parts.length l.length
 fit:kd b l l.length
open Classical in
noncomputable def dd (b:aW) (l:List Int):Int:=
 if(l.length:Int)=b.places then if kJ l b.parts.length l.length then if kd b l l.length then 0 else 3 else 6 else 2
section
variable {b:aW} {l:List Int}
theorem lG (h:¬(l.length:Int)=b.places):2=dd b l:=by unfold dd;rw[if_neg h]
theorem m6 (h:(l.length:Int)=b.places) (h2:¬kJ l b.parts.length l.length):6=dd b l:=by unfold dd;rw[if_pos h,if_neg h2]
theorem iO (h:(l.length:Int)=b.places) (h2:kJ l b.parts.length l.length) (h3:¬kd b l l.length):3=dd b l:=by unfold dd;rw[if_pos h,if_pos h2,if_neg h3]
theorem m7 (h:gZ b l):0=dd b l:=by unfold dd;rw[if_pos h.len,if_pos h.range,if_pos h.fit]
theorem ke:dd b l=0↔gZ b l:=by
 refine⟨fun h=>?_,fun h=>(m7 h).symm⟩;by_cases h1:(l.length:Int)=b.places
 .by_cases h2:kJ l b.parts.length l.length
  .by_cases h3:kd b l l.length
   .exact⟨h1,h2,h3⟩
   .rw[<-iO h1 h2 h3]at h;cases h
  .rw[<-m6 h1 h2]at h;cases h
 .rw[<-lG h1]at h;cases h
end
structure mv (w:World) (g:Nat) (v0 v1 v2 v3 v4:Value):Prop where
 c0:w.cell? ⟨g,0,none⟩=some v0
 c1:w.cell? ⟨g,1,none⟩=some v1
 c2:w.cell? ⟨g,2,none⟩=some v2
 c3:w.cell? ⟨g,3,none⟩=some v3
 c4:w.cell? ⟨g,4,none⟩=some v4
theorem mv.of {w1:World} {v0 v1 v2 v3 v4:Value} (h:Below (w.heap.size+1) (w.alloc (.cells #[v0,v1,v2,v3,v4] 26)) w1):mv w1 w.heap.size v0 v1 v2 v3 v4:=
 ⟨boxed h 0,boxed h 1,boxed h 2,boxed h 3,boxed h 4⟩
theorem mw (w:World) (v vl:Value) (b:aW) (l:List Int) (hb:az w v b) (hl:aP w vl l) (hp:1<=b.parts.length/\b.parts.length<=5):
 Calls ZP 18 #[v,vl] w (bT w fun s=>s=dd b l):=by
 have HB:=hid hb;obtain⟨v2,v3,v4,rfl,⟨a2,c2,h2,f2⟩,⟨a3,c3,⟨rfl,_,_,_,_⟩,_⟩,⟨a4,c4,⟨rfl,_,_,_,_⟩,_⟩⟩:=hb;obtain⟨al,cl,zY,fl⟩:=hl;have H2:Hid (cm w v2 b.parts.length a2 c2/\_):=⟨h2,f2⟩
 have HL:Hid (cm w vl l.length al cl/\_):=⟨zY,fl⟩
 obtain⟨rfl,l2,m2,n2,r2⟩:=h2;obtain⟨rfl,ll,ml,nl,rl⟩:=zY;unfold maxLen at m2 ml;clear r2 f2 n2 rl fl nl;have nB:wrap64 ((b.parts.length:Int)-1)=b.parts.length-1:=by unfold wrap64;omega
 go_enter ZF18,Tryz.ntmps18
 by_cases hlen:(l.length:Int)=b.places
 case neg=>
  go_wp2
  go_ret;exact bT.mk (r:=2) (lG hlen) ((Below.refl _ _).alloc (Nat.le_refl _) _)
 have FJ:=hid hlen;have bC:((l.length:Int)!=b.places)=false:=by simp[hlen]
 clear hlen;go_wp2
 go_loopw [5] (fun i w1=>∃k:Nat,k<=l.length/\Hid (kJ l b.parts.length k)/\i=.int .i64 k/\Hid (Below (w.heap.size+1) (w.alloc (.cells #[.int .i64 b.ap,.int .i64 b.places,.slice a2 b.parts.length c2,.slice a3 b.apart.length c3,.slice a4 b.ah.length c4] 26)) w1)) (fun i _=>l.length-(intOf i).toNat)
 case atStart=>exact⟨0,Nat.zero_le _,.zero _ _,rfl,Below.refl _ _⟩
 case round=>
  obtain⟨k,hk,hN,rfl,hB⟩:=hrel;obtain⟨g0,g1,g2,g3,g4⟩:=mv.of hB.o;by_cases ao:k<l.length
  .obtain⟨⟨blk,off,sp⟩,x,rfl,hx,x0⟩:=HL.o.1.elem HL.o.2 ao;obtain rfl:sp=none:=x0.1;have HX:=hid hx;have y0:=(x0.later (Kp.boxed hB.o)).2;simp only at y0;have mQ:(k:Int)<(l.length:Int):=by omega
   clear x0 hx;by_cases e:0<=x/\x<=(b.parts.length:Int)-1
   .have HE:=hid e;have hd:(decide (0<=x)&&decide (x<=(b.parts.length:Int)-1))=true:=by simpa using e
    clear e;go_wp2
    go_quiet ((go_at_call 20;exact(kH _ _ _ _).mono fun e w' h=>⟨h.1.trans (by rw[hd]),_,h.2⟩))
    go_wp2
    go_round
    case rel=>exact⟨k+1,by omega,hN.o.succ HX.o HE.o,by go_num,Below.drewN hB.o _⟩
    case measure=>simp[intOf];omega
   .have HE:=hid e
    have hd:(decide (0<=x)&&decide (x<=(b.parts.length:Int)-1))=false:=by
     cases hh:(decide (0<=x)&&decide (x<=(b.parts.length:Int)-1))with
     |false=>rfl
     |true=>exact absurd (by simpa using hh) e
    clear e;go_wp2
    go_quiet ((go_at_call 20;exact(kH _ _ _ _).mono fun e w' h=>⟨h.1.trans (by rw[hd]),_,h.2⟩))
    go_wp2
    go_ret;exact bT.mk (r:=6) (m6 FJ.o fun h=>HE.o (h k x ao HX.o)) (Below.drewN (Below.boxed hB.o) _)
  .have HN:Hid (kJ l b.parts.length l.length):=(by have e:k=l.length:=by omega
                                                   subst e;exact hN.o)
   clear hN;go_wp2
   go_loopw [6] (fun i w1=>∃k:Nat,k<=l.length/\Hid (kd b l k)/\i=.int .i64 k/\Hid (Below (w.heap.size+1) (w.alloc (.cells #[.int .i64 b.ap,.int .i64 b.places,.slice a2 b.parts.length c2,.slice a3 b.apart.length c3,.slice a4 b.ah.length c4] 26)) w1)) (fun i _=>l.length-(intOf i).toNat)
   case atStart=>exact⟨0,Nat.zero_le _,.zero _ _,rfl,hB.o⟩
   case round=>
    clear g0 g1 g2 g3 g4 hB ao hk;obtain⟨k,hk,hN,rfl,hB⟩:=hrel;have gg:=mv.of hB.o;by_cases ao:k<l.length
    .obtain⟨⟨blk,off,sp⟩,x,rfl,hx,x0⟩:=HL.o.1.elem HL.o.2 ao;obtain rfl:sp=none:=x0.1;obtain⟨xn,rfl⟩:=Int.eq_ofNat_of_zero_le (HN.o k x ao hx).1;have Ye:=(HN.o k xn ao hx).2;have xQ:xn<b.parts.length:=by omega
     obtain⟨⟨pb,po,ps⟩,P,rfl,hP,_,_,_,_,_,vf,p5,J9⟩:=H2.o.1.elem H2.o.2 xQ;obtain rfl:ps=none:=p5.1;have hf:=J9;obtain⟨af,cf,⟨rfl,_,_,_,_⟩,_⟩:=J9;have HX:Hid (l[k]?=some (xn:Int)/\b.parts[xn]?=some P):=⟨hx,hP⟩
     have G0:=fun X:aj wr=>X.cell gg.c0;have G1:=fun X:aj wr=>X.cell gg.c1;have G2:=fun X:aj wr=>X.cell gg.c2;have G3:=fun X:aj wr=>X.cell gg.c3;have G4:=fun X:aj wr=>X.cell gg.c4;have Y0:=fun X:aj wr=>X.cell (x0.later (Kp.boxed hB.o)).2;have Y5:=fun X:aj wr=>X.cell (p5.later (Kp.boxed hB.o)).2;simp only[<-Nat.add_assoc]at Y0 Y5;have mQ:(k:Int)<(l.length:Int):=by omega
     have Yf:(xn:Int)<(b.parts.length:Int):=by omega
     have hz:Hid (w.heap.size+1<=wr.heap.size):=by have:=hB.o.size;simp at this;exact(by omega:w.heap.size+1<=wr.heap.size)
     clear x0 hx hP p5 gg
     have sL:∀X:aj wr,Calls ZP 17 #[.slice af P.fits.length cf,.int .i64 k] X.1 (fun e pV=>e=.returned (.bool (decide ((k:Int)∈P.fits)))/\∃Y:aj wr,pV=Y.1):=fun X=>
      (FF _ _ _ _ ((hf.later (Kp.boxed hB.o)).later X.kp)).mono fun e w' h=>⟨h.1,X.same h.2⟩
     by_cases oW:(k:Int)∈P.fits
     .have HF:Hid (∃P,b.parts[((xn:Int)).toNat]?=some P/\(k:Int)∈P.fits):=⟨P,by simpa using HX.o.2,oW⟩
      rw[decide_eq_true oW]at sL;clear oW;by_cases pg:0<k
      .obtain⟨b',z,CW,Hv,z0⟩:=HL.o.1.elem HL.o.2 (show k-1<l.length by omega);cases CW;have Z0:=fun X:aj wr=>X.cell (z0.later (Kp.boxed hB.o)).2;simp only at Z0;have HZ:Hid (l[k-1]?=some z):=Hv;have qf:wrap64 ((k:Int)-1)=((k-1:Nat):Int):=by unfold wrap64;omega
       have mX:(0:Int)<(k:Int):=by omega
       have nG:((k-1:Nat):Int)<(l.length:Int):=by omega
       clear z0 Hv
       have uU:∀X:aj wr,Calls ZP 63 #[.agg #[.int .i64 b.ap,.int .i64 b.places,.slice (some ⟨pb,po,none⟩) b.parts.length c2,.slice a3 b.apart.length c3,.slice a4 b.ah.length c4],.int .i64 z,.int .i64 xn] X.1 (fun e pV=>(∃r,e=.returned (.bool r)/\Tr r (Apart b.apart z xn))/\∃Y:aj wr,pV=Y.1):=fun X=>
        (uT _ _ _ _ _ ((HB.o.later (Kp.boxed hB.o)).later X.kp)).mono fun e w' h=>⟨h.1,X.on h.2⟩
       by_cases FK:Apart b.apart z xn
       .have HA:=hid FK
        have uU:∀X:aj wr,Calls ZP 63 #[.agg #[.int .i64 b.ap,.int .i64 b.places,.slice (some ⟨pb,po,none⟩) b.parts.length c2,.slice a3 b.apart.length c3,.slice a4 b.ah.length c4],.int .i64 z,.int .i64 xn] X.1 (fun e pV=>e=.returned (.bool true)/\∃Y:aj wr,pV=Y.1):=fun X=>
         (uU X).mono fun e w' ⟨⟨r,h1,h2⟩,h3⟩=>⟨by rw[h1,h2.2 FK],h3⟩
        clear FK;go_wp2
        refine aS (by kernel_rfl) (by kernel_rfl) ?_;repeat(go_big_quiet_step (first|(go_at_call 17;exact sL _)|(go_at_call 63;exact uU _)))
        refine wpQuiet_nil ?_;rintro _ ⟨X,rfl⟩;go_wp2
        go_ret;exact bT.mk (r:=3) (iO FJ.o HN.o fun h=>(h k _ ao HX.o.1).Lu pg z HZ.o HA.o) ((Below.boxed hB.o).trans (X.2.mono (Nat.le_trans (Nat.le_succ _) hz.o)))
       .have HA:Hid (yR b l k xn):=⟨HF.o,fun _ y hy=>by rw[HZ.o]at hy;cases hy;exact FK⟩
        have uU:∀X:aj wr,Calls ZP 63 #[.agg #[.int .i64 b.ap,.int .i64 b.places,.slice (some ⟨pb,po,none⟩) b.parts.length c2,.slice a3 b.apart.length c3,.slice a4 b.ah.length c4],.int .i64 z,.int .i64 xn] X.1 (fun e pV=>e=.returned (.bool false)/\∃Y:aj wr,pV=Y.1):=fun X=>
         (uU X).mono fun e w' ⟨⟨r,h1,h2⟩,h3⟩=>⟨by cases r with
           |false=>exact h1
           |true=>exact absurd h2.t FK,h3⟩
        clear FK;go_wp2
        refine aS (by kernel_rfl) (by kernel_rfl) ?_;repeat(go_big_quiet_step (first|(go_at_call 17;exact sL _)|(go_at_call 63;exact uU _)))
        refine wpQuiet_nil ?_;rintro _ ⟨X,rfl⟩;go_wp2
        go_round
        case rel=>exact⟨k+1,by omega,hN.o.succ HX.o.1 HA.o,by go_num,hB.o.trans (X.2.mono hz.o)⟩
        case measure=>simp[intOf];omega
      .have HA:Hid (yR b l k xn):=⟨HF.o,fun h=>absurd h pg⟩
       have mX:¬(0:Int)<(k:Int):=by omega
       go_wp2
       refine aS (by kernel_rfl) (by kernel_rfl) ?_;repeat(go_big_quiet_step (first|(go_at_call 17;exact sL _)))
       refine wpQuiet_nil ?_;rintro _ ⟨X,rfl⟩;go_wp2
       go_round
       case rel=>exact⟨k+1,by omega,hN.o.succ HX.o.1 HA.o,by go_num,hB.o.trans (X.2.mono hz.o)⟩
       case measure=>simp[intOf];omega
     .have HF:=hid oW;rw[decide_eq_false oW]at sL;clear oW;go_wp2
      refine aS (by kernel_rfl) (by kernel_rfl) ?_;repeat(go_big_quiet_step (first|(go_at_call 17;exact sL _)))
      refine wpQuiet_nil ?_;rintro _ ⟨X,rfl⟩;go_wp2
      go_ret
      exact bT.mk (r:=3) (iO FJ.o HN.o fun h=>by
       obtain⟨P',Ka,hm⟩:=(h k _ ao HX.o.1).fits;simp only[Int.toNat_natCast]at Ka;rw[HX.o.2]at Ka;cases Ka;exact HF.o hm) ((Below.boxed hB.o).trans (X.2.mono (Nat.le_trans (Nat.le_succ _) hz.o)))
    .go_wp2
     go_ret;have e:k=l.length:=by omega
     subst e;exact bT.mk (r:=0) (m7 ⟨FJ.o,HN.o,hN.o⟩) (Below.boxed hB.o)
end Go.Proofs.Cz
namespace Go.Proofs.Cz
open Go.RowKit
structure sM (b:aW) (t:ga):Prop where
 Kc:gZ b t.parts
 Ke:0<=t.lo/\t.lo<=t.hi/\t.hi<=99
def ff (b:aW) (k:Nat):Prop:=∀j t,j<k->b.ah[j]?=some t->sM b t
theorem ff.zero (b:aW):ff b 0:=fun j y h=>by omega
theorem ff.succ {b:aW} {x:ga} {k:Nat} (h:ff b k) (hy:b.ah[k]?=some x) (bC:sM b x):ff b (k+1):=fun j z hj hz=>by
 by_cases e:j=k
 .subst e;rw[hy]at hz;cases hz;exact bC
 .exact h j z (by omega) hz
structure Valid (b:aW):Prop where
 ap:1<=b.ap/\b.ap<=99
 places:1<=b.places/\b.places<=4
 parts:sJ b
 fW:jR b
 many:b.ah.length<=4
 ah:ff b b.ah.length
end Go.Proofs.Cz
namespace Go.RowKit
theorem Below.gP {w w1:World} {o:Obj} (h:Below (w.alloc o).heap.size (w.alloc o) w1):Below (w.heap.size+1) (w.alloc o) w1:=by simpa using h
end Go.RowKit
namespace Go.Proofs.Cz
open Go.RowKit
end Go.Proofs.Cz
namespace Go.RowKit
theorem Below.iv {w w1 w2:World} {o:Obj} (h:Below (w.alloc o).heap.size (w.alloc o) w1) (k:Below w1.heap.size w1 w2):Below (w.heap.size+1) (w.alloc o) w2:=Below.gP (h.trans (k.mono h.size))
end Go.RowKit
namespace Go.Proofs.Cz
open Go.RowKit
theorem sN (w:World) (v:Value) (b:aW) (hb:az w v b) (hs:qM b):
 Calls ZP 32 #[v] w (bT w fun s=>s=0↔Valid b):=by
 have HB:=hid hb;obtain⟨v2,v3,v4,rfl,⟨a2,c2,⟨rfl,_,_,_,_⟩,_⟩,⟨a3,c3,⟨rfl,_,_,_,_⟩,_⟩,⟨a4,c4,h4,f4⟩⟩:=hb;have H4:Hid (cm w v4 b.ah.length a4 c4/\_):=⟨h4,f4⟩
 obtain⟨rfl,l4,m4,n4,r4⟩:=h4;unfold maxLen at m4;clear r4 f4 n4;go_enter ZF32,Tryz.ntmps32
 have nK:=HB.o.later (Kp.alloc w (.cells #[.int .i64 b.ap,.int .i64 b.places,.slice a2 b.parts.length c2,.slice a3 b.apart.length c3,.slice a4 b.ah.length c4] 26))
 go_wp2_with(first
  |(go_at_call 20;refine(FH _ _ _ _).mono ?_;rintro e w' ⟨r,rfl,hr,rfl⟩;cases r)
  |(go_at_call 79;refine(oT _ _ _ nK hs hr.t).mono ?_;rintro e w1 ⟨⟨r,rfl,Kf⟩,qK⟩;by_cases NE:r=0;obtain⟨g0,g1,g2,g3,g4⟩:=mv.of qK.gP)
  |(go_at_call 80;refine(oV _ _ _ (HB.o.later (Kp.boxed qK.gP)) (Kf.1 NE).many).mono ?_;rintro e w2 ⟨⟨r2,rfl,Ho⟩,xt⟩;by_cases Ld:r2=0;obtain⟨q0,q1,q2,q3,q4⟩:=mv.of (qK.iv xt)))
 .go_ret;exact bT.mk (r:=1) (bad (by decide) fun h=>hr.f h.ap) ((Below.refl _ _).alloc (Nat.le_refl _) _)
 .go_ret;exact bT.mk (r:=1) (bad (by decide) fun h=>hr.f h.places) ((Below.refl _ _).alloc (Nat.le_refl _) _)
 .rename_i Q0;go_ret;exact bT.mk (r:=2) (bad (by decide) fun h=>by have:=h.many;omega) (Below.boxed (qK.iv xt))
 .have HV:Hid ((1<=b.ap/\b.ap<=99)/\(1<=b.places/\b.places<=4)/\sJ b/\jR b/\b.ah.length<=4):=by
   exact⟨Tr.t (by assumption),hr.t,Kf.1 NE,Ho.1 Ld,by omega⟩
  have Yg:Hid (Below (w.heap.size+1) (w.alloc (.cells #[.int .i64 b.ap,.int .i64 b.places,.slice a2 b.parts.length c2,.slice a3 b.apart.length c3,.slice a4 b.ah.length c4] 26)) w2):=qK.iv xt;clear hr Kf Ho qK xt NE Ld q0 q1 q2 q3 q4 g0 g1 g2 g3 g4;go_loopw [5] (fun i w1=>∃k:Nat,k<=b.ah.length/\Hid (ff b k)/\i=.int .i64 k/\Hid (Below (w.heap.size+1) (w.alloc (.cells #[.int .i64 b.ap,.int .i64 b.places,.slice a2 b.parts.length c2,.slice a3 b.apart.length c3,.slice a4 b.ah.length c4] 26)) w1)) (fun i _=>b.ah.length-(intOf i).toNat)
  case atStart=>exact⟨0,Nat.zero_le _,.zero _,rfl,Yg⟩
  case round=>
   obtain⟨k,hk,hN,rfl,hB⟩:=hrel;have gg:=mv.of hB.o;by_cases ao:k<b.ah.length
   .obtain⟨⟨blk,off,sp⟩,t,rfl,hx,⟨vf,x0,hf⟩,x1,x2⟩:=H4.o.1.elem H4.o.2 ao;obtain rfl:sp=none:=x0.1;have xW:=hf;obtain⟨af,cf,⟨rfl,_,_,_,_⟩,_⟩:=hf;have HX:=hid hx;obtain⟨s0,s1,s2,s3,s4⟩:=gg;have G0:=fun X:aj wr=>X.cell s0;have G1:=fun X:aj wr=>X.cell s1;have G2:=fun X:aj wr=>X.cell s2;have G3:=fun X:aj wr=>X.cell s3;have G4:=fun X:aj wr=>X.cell s4;have Y0:=fun X:aj wr=>X.cell (x0.later (Kp.boxed hB.o)).2;have Y1:=fun X:aj wr=>X.cell (x1.later (Kp.boxed hB.o)).2;have Y2:=fun X:aj wr=>X.cell (x2.later (Kp.boxed hB.o)).2;simp only[<-Nat.add_assoc]at Y0 Y1 Y2;have mQ:(k:Int)<(b.ah.length:Int):=by omega
    have hz:Hid (w.heap.size+1<=wr.heap.size):=by have:=hB.o.size;simp at this;exact(by omega:w.heap.size+1<=wr.heap.size)
    have Hw:∀X:aj wr,Calls ZP 18 #[.agg #[.int .i64 b.ap,.int .i64 b.places,.slice a2 b.parts.length c2,.slice a3 b.apart.length c3,.slice (some ⟨blk,off,none⟩) b.ah.length c4],.slice af t.parts.length cf] X.1 (fun e pV=>e=.returned (.int .i64 (dd b t.parts))/\∃Y:aj wr,pV=Y.1):=fun X=>
     (mw _ _ _ _ _ ((HB.o.later (Kp.boxed hB.o)).later X.kp) ((xW.later (Kp.boxed hB.o)).later X.kp) HV.o.2.2.1.many).mono fun e w' ⟨⟨r,h1,h2⟩,h3⟩=>⟨by rw[h1,h2],X.on h3⟩
    clear xW x0 x1 x2 hx;by_cases Sx:dd b t.parts=0
    .have HM:Hid (gZ b t.parts):=ke.1 Sx;go_wp2
     refine aS (by kernel_rfl) (by kernel_rfl) ?_;repeat(go_big_quiet_step (first|(go_at_call 18;exact Hw _)))
     refine wpQuiet_nil ?_;rintro _ ⟨X,rfl⟩;go_wp2_with(go_at_call 81;refine(oQ _ _ _ _ _).mono ?_;rintro e w' ⟨r,rfl,hr,rfl⟩;cases r)
     .go_ret;exact bT.mk (r:=1) (bad (by decide) fun h=>hr.f (h.ah k _ ao HX.o).Ke) (Below.alloc ((Below.boxed hB.o).trans (X.2.mono (Nat.le_trans (Nat.le_succ _) hz.o))) (Nat.le_trans (Nat.le_trans (Nat.le_succ _) hz.o) X.2.size) _)
     .have HT:Hid (sM b t):=⟨HM.o,hr.t⟩
      clear hr;go_round
      case rel=>exact⟨k+1,by omega,hN.o.succ HX.o HT.o,by go_num,Below.alloc (hB.o.trans (X.2.mono hz.o)) (Nat.le_trans hz.o X.2.size) _⟩
      case measure=>simp[intOf];omega
    .have HM:Hid (¬gZ b t.parts):=fun h=>Sx (ke.2 h);go_wp2
     refine aS (by kernel_rfl) (by kernel_rfl) ?_;repeat(go_big_quiet_step (first|(go_at_call 18;exact Hw _)))
     refine wpQuiet_nil ?_;rintro _ ⟨X,rfl⟩;go_wp2
     go_ret;exact bT.mk (bad Sx fun h=>HM.o (h.ah k _ ao HX.o).Kc) ((Below.boxed hB.o).trans (X.2.mono (Nat.le_trans (Nat.le_succ _) hz.o)))
   .have HN:Hid (ff b b.ah.length):=(by have e:k=b.ah.length:=by omega
                                        subst e;exact hN.o)
    obtain⟨s0,s1,s2,s3,s4⟩:=gg;go_wp2
    go_ret;exact bT.mk (r:=0) ⟨fun _=>⟨HV.o.1,HV.o.2.1,HV.o.2.2.1,HV.o.2.2.2.1,HV.o.2.2.2.2,HN.o⟩,fun _=>rfl⟩ (Below.boxed hB.o)
 .go_ret;exact bT.mk (bad Ld fun h=>Ld (Ho.2 h.fW)) (Below.boxed (qK.iv xt))
 .go_ret;exact bT.mk (bad NE fun h=>NE (Kf.2 h.parts)) (Below.boxed qK.gP)
end Go.Proofs.Cz
namespace Go.Proofs.Cz
open Go.RowKit
theorem FM (w:World) (v:Value) (b:aW) (hb:az w v b):
 Calls ZP 6 #[v] w (dc w fun r=>r=true->qM b/\Valid b):=by
 have HB:=hid hb;obtain⟨v2,v3,v4,rfl,⟨a2,c2,⟨rfl,_,_,_,_⟩,_⟩,⟨a3,c3,⟨rfl,_,_,_,_⟩,_⟩,⟨a4,c4,⟨rfl,_,_,_,_⟩,_⟩⟩:=hb;go_enter ZF6,Tryz.ntmps6
 have nK:=HB.o.later (Kp.alloc w (.cells #[.int .i64 b.ap,.int .i64 b.places,.slice a2 b.parts.length c2,.slice a3 b.apart.length c3,.slice a4 b.ah.length c4] 26))
 go_wp2_with(first
  |(go_at_call 33;refine(Aj _ _ _ nK).mono ?_;rintro e w1 ⟨⟨r,rfl,Kf⟩,qK⟩;cases r;have HS:Hid (qM b):=Kf rfl;clear Kf;obtain⟨g0,g1,g2,g3,g4⟩:=mv.of qK.gP)
  |(go_at_call 32;refine(sN _ _ _ (HB.o.later (Kp.boxed qK.gP)) HS.o).mono ?_;rintro e w2 ⟨⟨r2,rfl,Ho⟩,xt⟩;by_cases Ld:r2=0))
 .have HV:Hid (Valid b):=Ho.1 Ld;go_ret;exact dc.mk (fun _=>⟨HS.o,HV.o⟩) (Below.boxed (qK.iv xt))
 .go_ret;exact dc.mk (fun h=>by simp_all) (Below.boxed (qK.iv xt))
 .go_ret;exact dc.mk (fun h=>by cases h) (Below.boxed qK.gP)
end Go.Proofs.Cz
