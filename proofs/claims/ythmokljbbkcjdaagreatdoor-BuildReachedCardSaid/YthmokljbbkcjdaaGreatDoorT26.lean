/- A part. Conditions: none. -/
import Derived.Test.YthmokljbbkcjdaaGreatDoorT25
import Derived.Laws.StructEq
set_option linter.all false
set_option maxHeartbeats 8000000
namespace Go.Proofs.Cz
open Go.RowKit
variable {k:Nat} {n p q:Int} {w w0:World} {x:Int×Int}
@[go_sem] theorem LN:ZP.eqGuardType ZP.depth 119=false:=by kernel_rfl
structure yj (n:Int) (x:Int×Int):Prop where
 one:0<=x.1/\x.1<=n-1
 two:0<=x.2/\x.2<=n-1
 le:x.1<=x.2
def gH (l:List (Int×Int)) (x:Int×Int) (k:Nat):Prop:=∀j y,j<k->l[j]?=some y->y≠x
theorem gH.zero (l:List (Int×Int)) (x:Int×Int):gH l x 0:=fun j y h=>by omega
theorem gH.succ {l:List (Int×Int)} {y:Int×Int} (h:gH l x k) (hy:l[k]?=some y) (bE:y≠x):gH l x (k+1):=fun j z hj hz=>by
 by_cases e:j=k
 .subst e;rw[hy]at hz;cases hz;exact bE
 .exact h j z (by omega) hz
def hU (n:Int) (l:List (Int×Int)) (k:Nat):Prop:=∀j x,j<k->l[j]?=some x->yj n x/\gH l x j
theorem hU.zero (n:Int) (l:List (Int×Int)):hU n l 0:=fun j y h=>by omega
theorem hU.succ {l:List (Int×Int)} (h:hU n l k) (hx:l[k]?=some x) (h1:yj n x) (h2:gH l x k):hU n l (k+1):=fun j z hj hz=>by
 by_cases e:j=k
 .subst e;rw[hx]at hz;cases hz;exact⟨h1,h2⟩
 .exact h j z (by omega) hz
structure j9 (b:aS):Prop where
 many:b.apart.length<=5
 all:hU b.parts.length b.apart b.apart.length
theorem pB (w:World) (v:Value) (b:aS) (hb:ar w v b) (hp:1<=b.parts.length/\b.parts.length<=5):
 Calls ZP 85 #[v] w (bY w fun s=>s=0↔j9 b):=by
 obtain⟨v2,v3,v4,rfl,⟨a2,c2,h2,f2⟩,⟨a3,c3,h3,f3⟩,h4⟩:=hb;have H3:Hid (bS w v3 b.apart.length a3 c3/\_):=⟨h3,f3⟩
 obtain⟨rfl,l2,m2,n2,r2⟩:=h2;obtain⟨rfl,l3,m3,n3,r3⟩:=h3;unfold maxLen at m2 m3;clear r2 f2 n2 r3 f3 n3 h4;have pR:wrap64 ((b.parts.length:Int)-1)=b.parts.length-1:=by unfold wrap64;omega
 go_enter ZF85,Tryz.ntmps85
 go_wp2
 .rename_i hm;go_ret;exact bY.mk (r:=2) (bad (by decide) fun h=>by have:=h.many;omega) ((Below.refl _ _).alloc (Nat.le_refl _) _)
 rename_i hm;go_loopw [3] (fun i w1=>∃k:Nat,k<=b.apart.length/\Hid (hU b.parts.length b.apart k)/\i=.int .i64 k/\Hid (Below (w.heap.size+1) (w.alloc (.cells #[.int .i64 b.am,.int .i64 b.places,.slice a2 b.parts.length c2,.slice a3 b.apart.length c3,v4] 26)) w1)) (fun i _=>b.apart.length-(intOf i).toNat)
 case atStart=>exact⟨0,Nat.zero_le _,.zero _ _,rfl,Below.refl _ _⟩
 case round=>
  obtain⟨k,hk,hN,rfl,hB⟩:=hrel;have g2:=boxed hB.o 2;have g3:=boxed hB.o 3;simp only[List.getElem?_toArray,List.getElem?_cons_succ,List.getElem?_cons_zero]at g2 g3;by_cases ap:k<b.apart.length
  .obtain⟨⟨blk,off,sp⟩,⟨xa,xb⟩,rfl,hx,x0,x1⟩:=H3.o.1.elem H3.o.2 ap;obtain rfl:sp=none:=x0.1;have HX:=hid hx;have y0:=(x0.later (Kp.boxed hB.o)).2;have y1:=(x1.later (Kp.boxed hB.o)).2;simp only[<-Nat.add_assoc]at y0 y1;have mS:w.heap.size+1<=wr.heap.size:=by have:=hB.o.size;simp at this;omega
   have rc:blk<w.heap.size:=x0.lt;have NG:∀o,(wr.alloc o).cell? ⟨w.heap.size,2,none⟩=some (.slice a2 b.parts.length c2):=fun o=>(dK (by show w.heap.size<_;omega) o).trans g2;have g3':∀o,(wr.alloc o).cell? ⟨w.heap.size,3,none⟩=some (.slice (some ⟨blk,off,none⟩) b.apart.length c3):=fun o=>(dK (by show w.heap.size<_;omega) o).trans g3;clear x0 x1 hx;go_wp2_with(go_at_call 19;refine(GS _ _ _ _).mono ?_;rintro e w' ⟨r,rfl,hr,rfl⟩;cases r)
   .go_ret;exact bY.mk (r:=6) (bad (by decide) fun h=>hr.f (h.all k _ ap HX.o).1.one) (Below.one (Below.boxed hB.o) (by omega) _ 0)
   .go_ret;exact bY.mk (r:=6) (bad (by decide) fun h=>hr.f (h.all k _ ap HX.o).1.two) (Below.one (Below.boxed hB.o) (by omega) _ 0)
   .rename_i uu;go_ret;exact bY.mk (r:=7) (bad (by decide) fun h=>absurd (h.all k _ ap HX.o).1.le (by simp only;omega)) (Below.one (Below.boxed hB.o) (by omega) _ 0)
   rename_i qy hle;have HK:Hid (yj b.parts.length (xa,xb)):=⟨qy.t,hr.t,hle⟩
   have HL:=hid ap;clear hr qy hle;go_loopw [5] (fun i w2=>∃m:Nat,m<=k/\Hid (gH b.apart (xa,xb) m)/\i=.int .i64 m/\∃n,w2=(wr.alloc (.cells #[.int .i64 xa,.int .i64 xb] 119)).drewN n) (fun i _=>k-(intOf i).toNat)
   case atStart=>exact⟨0,Nat.zero_le _,.zero _ _,rfl,0,rfl⟩
   case round=>
    obtain⟨m,Xd,hM,rfl,n0,rfl⟩:=hrel;by_cases gQ:m<k
    .obtain⟨b',⟨ya,yb⟩,Bm,hy,z0,z1⟩:=H3.o.1.elem H3.o.2 (show m<b.apart.length by have:=HL.o;omega);cases Bm;have q0:=((z0.later (Kp.boxed hB.o)).later (Kp.alloc wr (.cells #[.int .i64 xa,.int .i64 xb] 119))).2;have q1:=((z1.later (Kp.boxed hB.o)).later (Kp.alloc wr (.cells #[.int .i64 xa,.int .i64 xb] 119))).2;simp only[<-Nat.add_assoc]at q0 q1;have HY:=hid hy;have Po:(m:Int)<(k:Int):=by omega
     have Re:(m:Int)<(b.apart.length:Int):=by omega
     clear hy z0 z1;have Xe:=Below.one (Below.boxed hB.o) (by omega) (.cells #[.int .i64 xa,.int .i64 xb] 119);have kB:=hid Xe;clear Xe;by_cases e1:ya=xa
     .by_cases e2:yb=xb
      .subst e1 e2;go_wp2
       go_quiet (fail)
       go_wp2
       go_ret;exact bY.mk (r:=5) (bad (by decide) fun h=>(h.all k _ HL.o HX.o).2 m _ gQ HY.o rfl) (Below.drewN (kB.o _) _)
      .subst e1;have bE:Hid ((ya,yb)≠(ya,xb)):=(fun h=>e2 (by cases h;rfl):(ya,yb)≠(ya,xb))
       go_wp2
       go_quiet (fail)
       go_wp2
       go_round
       case rel=>exact⟨m+1,by omega,hM.o.succ HY.o bE.o,by go_num,_,rfl⟩
       case measure=>simp[intOf];omega
     .have bE:Hid ((ya,yb)≠(xa,xb)):=(fun h=>e1 (by cases h;rfl):(ya,yb)≠(xa,xb))
      go_wp2
      go_quiet (fail)
      go_wp2
      go_round
      case rel=>exact⟨m+1,by omega,hM.o.succ HY.o bE.o,by go_num,_,rfl⟩
      case measure=>simp[intOf];omega
    .have HM:Hid (gH b.apart (xa,xb) k):=(by have e:m=k:=by omega
                                             subst e;exact hM.o)
     go_wp2
     go_round
     case rel=>exact⟨k+1,by omega,hN.o.succ HX.o HK.o HM.o,by go_num,Below.one hB.o (by omega) _ _⟩
     case measure=>simp[intOf];omega
  .go_wp2
   go_ret;have e:k=b.apart.length:=by omega
   subst e;exact bY.mk (r:=0) ⟨fun _=>⟨by omega,hN.o⟩,fun _=>rfl⟩ (Below.boxed hB.o)
def tp (x:Int×Int) (p q:Int):Prop:=x.1=p/\x.2=q\/x.1=q/\x.2=p
def Apart (l:List (Int×Int)) (p q:Int):Prop:=∃x∈l,tp x p q
def nE (l:List (Int×Int)) (p q:Int) (k:Nat):Prop:=∀j x,j<k->l[j]?=some x->¬tp x p q
theorem nE.zero (l:List (Int×Int)) (p q:Int):nE l p q 0:=fun j y h=>by omega
theorem nE.succ {l:List (Int×Int)} (h:nE l p q k) (hy:l[k]?=some x) (bE:¬tp x p q):nE l p q (k+1):=fun j z hj hz=>by
 by_cases e:j=k
 .subst e;rw[hy]at hz;cases hz;exact bE
 .exact h j z (by omega) hz
theorem nE.all {l:List (Int×Int)} (h:nE l p q l.length):¬Apart l p q:=fun⟨x,hm,hx⟩=>by
 obtain⟨j,hj,rfl⟩:=List.getElem_of_mem hm;exact h j _ hj (List.getElem?_eq_getElem hj) hx
theorem vJ (w:World) (v:Value) (b:aS) (p q:Int) (hb:ar w v b):
 Calls ZP 98 #[v,.int .i64 p,.int .i64 q] w (dq w fun r=>Tr r (Apart b.apart p q)):=by
 obtain⟨v2,v3,v4,rfl,h2,⟨a3,c3,h3,f3⟩,h4⟩:=hb;have H3:Hid (bS w v3 b.apart.length a3 c3/\_):=⟨h3,f3⟩
 obtain⟨rfl,l3,m3,n3,r3⟩:=h3;obtain⟨a2,c2,⟨rfl,_,_,_,_⟩,_⟩:=h2;obtain⟨a4,c4,⟨rfl,_,_,_,_⟩,_⟩:=h4;unfold maxLen at m3;clear r3 f3 n3;go_enter ZF98,Tryz.ntmps98
 go_wp2
 go_loopw [7] (fun i w1=>∃k:Nat,k<=b.apart.length/\Hid (nE b.apart p q k)/\i=.int .i64 k/\Hid (Below (w.heap.size+1) (w.alloc (.cells #[.int .i64 b.am,.int .i64 b.places,.slice a2 b.parts.length c2,.slice a3 b.apart.length c3,.slice a4 b.aa.length c4] 26)) w1)) (fun i _=>b.apart.length-(intOf i).toNat)
 case atStart=>exact⟨0,Nat.zero_le _,.zero _ _ _,rfl,Below.refl _ _⟩
 case round=>
  obtain⟨k,hk,hN,rfl,hB⟩:=hrel;have g3:=boxed hB.o 3;simp only[List.getElem?_toArray,List.getElem?_cons_succ,List.getElem?_cons_zero]at g3;by_cases ap:k<b.apart.length
  .obtain⟨⟨blk,off,sp⟩,⟨xa,xb⟩,rfl,hx,x0,x1⟩:=H3.o.1.elem H3.o.2 ap;obtain rfl:sp=none:=x0.1;have HX:=hid hx;have y0:=(x0.later (Kp.boxed hB.o)).2;have y1:=(x1.later (Kp.boxed hB.o)).2;simp only[<-Nat.add_assoc]at y0 y1;have mS:w.heap.size+1<=wr.heap.size:=by have:=hB.o.size;simp at this;omega
   have HZ:=hid mS;clear x0 x1 hx;by_cases e:tp (xa,xb) p q
   .have hm:=List.mem_of_getElem? HX.o;rcases(show xa=p/\xb=q\/xa=q/\xb=p from e)with⟨rfl,rfl⟩|⟨rfl,rfl⟩
    .go_wp2
     go_ret;exact dq.mk (.yes ⟨_,hm,.inl ⟨rfl,rfl⟩⟩) (Below.one (Below.boxed hB.o) (by omega) _ 0)
    .by_cases e3:xa=xb
     .subst e3;go_wp2
      go_ret;exact dq.mk (.yes ⟨_,hm,.inl ⟨rfl,rfl⟩⟩) (Below.one (Below.boxed hB.o) (by omega) _ 0)
     .go_wp2
      go_ret;exact dq.mk (.yes ⟨_,hm,.inr ⟨rfl,rfl⟩⟩) (Below.one (Below.boxed hB.o) (by omega) _ 0)
   .have HE:=hid e;have e1:¬(xa=p/\xb=q):=fun h=>e (.inl h);have e2:¬(xa=q/\xb=p):=fun h=>e (.inr h);clear e;by_cases a1:xa=p
    .subst a1;have a2:¬xb=q:=fun h=>e1 ⟨rfl,h⟩;clear e1;by_cases a3:xa=q
     .subst a3;clear e2;go_wp2
      go_round
      case rel=>exact⟨k+1,by omega,hN.o.succ HX.o HE.o,by go_num,Below.one hB.o HZ.o _ 0⟩
      case measure=>simp[intOf];omega
     .clear e2;go_wp2
      go_round
      case rel=>exact⟨k+1,by omega,hN.o.succ HX.o HE.o,by go_num,Below.one hB.o HZ.o _ 0⟩
      case measure=>simp[intOf];omega
    .clear e1;by_cases a3:xa=q
     .subst a3;have a4:¬xb=p:=fun h=>e2 ⟨rfl,h⟩;clear e2;go_wp2
      go_round
      case rel=>exact⟨k+1,by omega,hN.o.succ HX.o HE.o,by go_num,Below.one hB.o HZ.o _ 0⟩
      case measure=>simp[intOf];omega
     .clear e2;go_wp2
      go_round
      case rel=>exact⟨k+1,by omega,hN.o.succ HX.o HE.o,by go_num,Below.one hB.o HZ.o _ 0⟩
      case measure=>simp[intOf];omega
  .go_wp2
   go_ret;have e:k=b.apart.length:=by omega
   subst e;exact dq.mk (.no hN.o.all) (Below.boxed hB.o)
def an (w0:World):Type:={w:World//Below w0.heap.size w0 w}
instance (w0 : World) : Nonempty (an w0) := ⟨⟨w0, Below.refl _ _⟩⟩
theorem an.cell (X:an w0) {a:Addr} {v:Value} (h:w0.cell? a=some v):X.1.cell? a=some v:=by
 have hk:a.block<w0.heap.size:=by
  unfold World.cell? at h;split at h
  .rename_i hx;exact(Array.getElem?_eq_some_iff.1 hx).1
  .cases h
 exact(World.cell?_of_block (X.2.block _ hk)).trans h
theorem an.kp (X:an w0):Kp w0 X.1:=Kp.of X.2
theorem an.on (X:an w0) (h:Below X.1.heap.size X.1 w):∃Y:an w0,w=Y.1:=⟨⟨w,X.2.trans (h.mono X.2.size)⟩,rfl⟩
theorem an.same (X:an w0) (h:w=X.1):∃Y:an w0,w=Y.1:=⟨X,h⟩
theorem aV {P:Program} {id:Nat} {Q:Exit->Act->World->Prop} {a:Act} {l:List Oper} (hm:P.follows .mixedOrders=true) (hB:Region.lexB .any l.toArray=true)
 (h:wpQuiet P l.toArray (fun w'=>∃X:an w,w'=X.1) (fun a'=>∀w',(∃X:an w,w'=X.1)->Q .normal a' w') l a):(Code.region id l.toArray true).wp P Q a w:=
 wp_region_quiet (C:=fun w'=>∃X:an w,w'=X.1) hm hB ⟨⟨_,Below.drewN (Below.refl _ w) 1⟩,rfl⟩ (by simpa using h)
def lh (l:List Int) (n:Int) (k:Nat):Prop:=∀(j:Nat) (x:Int),j<k->l[j]?=some x->0<=x/\x<=n-1
theorem lh.zero (l:List Int) (n:Int):lh l n 0:=fun j y h=>by omega
theorem lh.succ {l:List Int} {x:Int} (h:lh l n k) (hy:l[k]?=some x) (bE:0<=x/\x<=n-1):lh l n (k+1):=fun j z hj hz=>by
 by_cases e:j=k
 .subst e;rw[hy]at hz;cases hz;exact bE
 .exact h j z (by omega) hz
structure zN (b:aS) (l:List Int) (j:Nat) (x:Int):Prop where
 fits:∃P,b.parts[x.toNat]?=some P/\(j:Int)∈P.fits
 M8:0<j->∀y,l[j-1]?=some y->¬Apart b.apart y x
def kC (b:aS) (l:List Int) (k:Nat):Prop:=∀j x,j<k->l[j]?=some x->zN b l j x
theorem kC.zero (b:aS) (l:List Int):kC b l 0:=fun j y h=>by omega
theorem kC.succ {b:aS} {l:List Int} {x:Int} (h:kC b l k) (hy:l[k]?=some x) (bE:zN b l k x):kC b l (k+1):=fun j z hj hz=>by
 by_cases e:j=k
 .subst e;rw[hy]at hz;cases hz;exact bE
 .exact h j z (by omega) hz
structure io (b:aS) (l:List Int):Prop where
 len:(l.length:Int)=b.places
 range:lh l b.parts.length l.length
 fit:kC b l l.length
open Classical in
noncomputable def dr (b:aS) (l:List Int):Int:=
 if(l.length:Int)=b.places then if lh l b.parts.length l.length then if kC b l l.length then 0 else 3 else 6 else 2
section
variable {b:aS} {l:List Int}
theorem mj (h:¬(l.length:Int)=b.places):2=dr b l:=by unfold dr;rw[if_neg h]
theorem nF (h:(l.length:Int)=b.places) (h2:¬lh l b.parts.length l.length):6=dr b l:=by unfold dr;rw[if_pos h,if_neg h2]
theorem iV (h:(l.length:Int)=b.places) (h2:lh l b.parts.length l.length) (h3:¬kC b l l.length):3=dr b l:=by unfold dr;rw[if_pos h,if_pos h2,if_neg h3]
theorem nG (h:io b l):0=dr b l:=by unfold dr;rw[if_pos h.len,if_pos h.range,if_pos h.fit]
theorem kD:dr b l=0↔io b l:=by
 refine⟨fun h=>?_,fun h=>(nG h).symm⟩;by_cases h1:(l.length:Int)=b.places
 .by_cases h2:lh l b.parts.length l.length
  .by_cases h3:kC b l l.length
   .exact⟨h1,h2,h3⟩
   .rw[<-iV h1 h2 h3]at h;cases h
  .rw[<-nF h1 h2]at h;cases h
 .rw[<-mj h1]at h;cases h
end
structure mZ (w:World) (g:Nat) (v0 v1 v2 v3 v4:Value):Prop where
 c0:w.cell? ⟨g,0,none⟩=some v0
 c1:w.cell? ⟨g,1,none⟩=some v1
 c2:w.cell? ⟨g,2,none⟩=some v2
 c3:w.cell? ⟨g,3,none⟩=some v3
 c4:w.cell? ⟨g,4,none⟩=some v4
theorem mZ.of {w1:World} {v0 v1 v2 v3 v4:Value} (h:Below (w.heap.size+1) (w.alloc (.cells #[v0,v1,v2,v3,v4] 26)) w1):mZ w1 w.heap.size v0 v1 v2 v3 v4:=
 ⟨boxed h 0,boxed h 1,boxed h 2,boxed h 3,boxed h 4⟩
theorem m6 (w:World) (v vl:Value) (b:aS) (l:List Int) (hb:ar w v b) (hl:ao w vl l) (hp:1<=b.parts.length/\b.parts.length<=5):
 Calls ZP 86 #[v,vl] w (bY w fun s=>s=dr b l):=by
 have HB:=hid hb;obtain⟨v2,v3,v4,rfl,⟨a2,c2,h2,f2⟩,⟨a3,c3,⟨rfl,_,_,_,_⟩,_⟩,⟨a4,c4,⟨rfl,_,_,_,_⟩,_⟩⟩:=hb;obtain⟨al,cl,AY,fl⟩:=hl;have H2:Hid (bS w v2 b.parts.length a2 c2/\_):=⟨h2,f2⟩
 have HL:Hid (bS w vl l.length al cl/\_):=⟨AY,fl⟩
 obtain⟨rfl,l2,m2,n2,r2⟩:=h2;obtain⟨rfl,ll,ml,nl,rl⟩:=AY;unfold maxLen at m2 ml;clear r2 f2 n2 rl fl nl;have pR:wrap64 ((b.parts.length:Int)-1)=b.parts.length-1:=by unfold wrap64;omega
 go_enter ZF86,Tryz.ntmps86
 by_cases hlen:(l.length:Int)=b.places
 case neg=>
  go_wp2
  go_ret;exact bY.mk (r:=2) (mj hlen) ((Below.refl _ _).alloc (Nat.le_refl _) _)
 have GV:=hid hlen;have bE:((l.length:Int)!=b.places)=false:=by simp[hlen]
 clear hlen;go_wp2
 go_loopw [5] (fun i w1=>∃k:Nat,k<=l.length/\Hid (lh l b.parts.length k)/\i=.int .i64 k/\Hid (Below (w.heap.size+1) (w.alloc (.cells #[.int .i64 b.am,.int .i64 b.places,.slice a2 b.parts.length c2,.slice a3 b.apart.length c3,.slice a4 b.aa.length c4] 26)) w1)) (fun i _=>l.length-(intOf i).toNat)
 case atStart=>exact⟨0,Nat.zero_le _,.zero _ _,rfl,Below.refl _ _⟩
 case round=>
  obtain⟨k,hk,hN,rfl,hB⟩:=hrel;obtain⟨g0,g1,g2,g3,g4⟩:=mZ.of hB.o;by_cases ap:k<l.length
  .obtain⟨⟨blk,off,sp⟩,x,rfl,hx,x0⟩:=HL.o.1.elem HL.o.2 ap;obtain rfl:sp=none:=x0.1;have HX:=hid hx;have y0:=(x0.later (Kp.boxed hB.o)).2;simp only at y0;have lY:(k:Int)<(l.length:Int):=by omega
   clear x0 hx;by_cases e:0<=x/\x<=(b.parts.length:Int)-1
   .have HE:=hid e;have hd:(decide (0<=x)&&decide (x<=(b.parts.length:Int)-1))=true:=by simpa using e
    clear e;go_wp2
    go_quiet ((go_at_call 19;exact(mY _ _ _ _).mono fun e w' h=>⟨h.1.trans (by rw[hd]),_,h.2⟩))
    go_wp2
    go_round
    case rel=>exact⟨k+1,by omega,hN.o.succ HX.o HE.o,by go_num,Below.drewN hB.o _⟩
    case measure=>simp[intOf];omega
   .have HE:=hid e
    have hd:(decide (0<=x)&&decide (x<=(b.parts.length:Int)-1))=false:=by
     cases hh:(decide (0<=x)&&decide (x<=(b.parts.length:Int)-1))with
     |false=>rfl
     |true=>exact absurd (by simpa using hh) e
    clear e;go_wp2
    go_quiet ((go_at_call 19;exact(mY _ _ _ _).mono fun e w' h=>⟨h.1.trans (by rw[hd]),_,h.2⟩))
    go_wp2
    go_ret;exact bY.mk (r:=6) (nF GV.o fun h=>HE.o (h k x ap HX.o)) (Below.drewN (Below.boxed hB.o) _)
  .have HN:Hid (lh l b.parts.length l.length):=(by have e:k=l.length:=by omega
                                                   subst e;exact hN.o)
   clear hN;go_wp2
   go_loopw [6] (fun i w1=>∃k:Nat,k<=l.length/\Hid (kC b l k)/\i=.int .i64 k/\Hid (Below (w.heap.size+1) (w.alloc (.cells #[.int .i64 b.am,.int .i64 b.places,.slice a2 b.parts.length c2,.slice a3 b.apart.length c3,.slice a4 b.aa.length c4] 26)) w1)) (fun i _=>l.length-(intOf i).toNat)
   case atStart=>exact⟨0,Nat.zero_le _,.zero _ _,rfl,hB.o⟩
   case round=>
    clear g0 g1 g2 g3 g4 hB ap hk;obtain⟨k,hk,hN,rfl,hB⟩:=hrel;have gg:=mZ.of hB.o;by_cases ap:k<l.length
    .obtain⟨⟨blk,off,sp⟩,x,rfl,hx,x0⟩:=HL.o.1.elem HL.o.2 ap;obtain rfl:sp=none:=x0.1;obtain⟨xn,rfl⟩:=Int.eq_ofNat_of_zero_le (HN.o k x ap hx).1;have hxr:=(HN.o k xn ap hx).2;have yS:xn<b.parts.length:=by omega
     obtain⟨⟨pb,po,ps⟩,P,rfl,hP,_,_,_,_,_,vf,p5,LO⟩:=H2.o.1.elem H2.o.2 yS;obtain rfl:ps=none:=p5.1;have hf:=LO;obtain⟨af,cf,⟨rfl,_,_,_,_⟩,_⟩:=LO;have HX:Hid (l[k]?=some (xn:Int)/\b.parts[xn]?=some P):=⟨hx,hP⟩
     have G0:=fun X:an wr=>X.cell gg.c0;have G1:=fun X:an wr=>X.cell gg.c1;have G2:=fun X:an wr=>X.cell gg.c2;have G3:=fun X:an wr=>X.cell gg.c3;have G4:=fun X:an wr=>X.cell gg.c4;have Y0:=fun X:an wr=>X.cell (x0.later (Kp.boxed hB.o)).2;have Y5:=fun X:an wr=>X.cell (p5.later (Kp.boxed hB.o)).2;simp only[<-Nat.add_assoc]at Y0 Y5;have lY:(k:Int)<(l.length:Int):=by omega
     have hx2:(xn:Int)<(b.parts.length:Int):=by omega
     have hz:Hid (w.heap.size+1<=wr.heap.size):=by have:=hB.o.size;simp at this;exact(by omega:w.heap.size+1<=wr.heap.size)
     clear x0 hx hP p5 gg
     have tq:∀X:an wr,Calls ZP 20 #[.slice af P.fits.length cf,.int .i64 k] X.1 (fun e qn=>e=.returned (.bool (decide ((k:Int)∈P.fits)))/\∃Y:an wr,qn=Y.1):=fun X=>
      (zK _ _ _ _ ((hf.later (Kp.boxed hB.o)).later X.kp)).mono fun e w' h=>⟨h.1,X.same h.2⟩
     by_cases pC:(k:Int)∈P.fits
     .have HF:Hid (∃P,b.parts[((xn:Int)).toNat]?=some P/\(k:Int)∈P.fits):=⟨P,by simpa using HX.o.2,pC⟩
      rw[decide_eq_true pC]at tq;clear pC;by_cases wn:0<k
      .obtain⟨b',z,Bm,Jp,z0⟩:=HL.o.1.elem HL.o.2 (show k-1<l.length by omega);cases Bm;have Z0:=fun X:an wr=>X.cell (z0.later (Kp.boxed hB.o)).2;simp only at Z0;have HZ:Hid (l[k-1]?=some z):=Jp;have qz:wrap64 ((k:Int)-1)=((k-1:Nat):Int):=by unfold wrap64;omega
       have j7:(0:Int)<(k:Int):=by omega
       have ol:((k-1:Nat):Int)<(l.length:Int):=by omega
       clear z0 Jp
       have vK:∀X:an wr,Calls ZP 98 #[.agg #[.int .i64 b.am,.int .i64 b.places,.slice (some ⟨pb,po,none⟩) b.parts.length c2,.slice a3 b.apart.length c3,.slice a4 b.aa.length c4],.int .i64 z,.int .i64 xn] X.1 (fun e qn=>(∃r,e=.returned (.bool r)/\Tr r (Apart b.apart z xn))/\∃Y:an wr,qn=Y.1):=fun X=>
        (vJ _ _ _ _ _ ((HB.o.later (Kp.boxed hB.o)).later X.kp)).mono fun e w' h=>⟨h.1,X.on h.2⟩
       by_cases GW:Apart b.apart z xn
       .have HA:=hid GW
        have vK:∀X:an wr,Calls ZP 98 #[.agg #[.int .i64 b.am,.int .i64 b.places,.slice (some ⟨pb,po,none⟩) b.parts.length c2,.slice a3 b.apart.length c3,.slice a4 b.aa.length c4],.int .i64 z,.int .i64 xn] X.1 (fun e qn=>e=.returned (.bool true)/\∃Y:an wr,qn=Y.1):=fun X=>
         (vK X).mono fun e w' ⟨⟨r,h1,h2⟩,h3⟩=>⟨by rw[h1,h2.2 GW],h3⟩
        clear GW;go_wp2
        refine aV (by kernel_rfl) (by kernel_rfl) ?_;repeat(go_big_quiet_step (first|(go_at_call 20;exact tq _)|(go_at_call 98;exact vK _)))
        refine wpQuiet_nil ?_;rintro _ ⟨X,rfl⟩;go_wp2
        go_ret;exact bY.mk (r:=3) (iV GV.o HN.o fun h=>(h k _ ap HX.o.1).M8 wn z HZ.o HA.o) ((Below.boxed hB.o).trans (X.2.mono (Nat.le_trans (Nat.le_succ _) hz.o)))
       .have HA:Hid (zN b l k xn):=⟨HF.o,fun _ y hy=>by rw[HZ.o]at hy;cases hy;exact GW⟩
        have vK:∀X:an wr,Calls ZP 98 #[.agg #[.int .i64 b.am,.int .i64 b.places,.slice (some ⟨pb,po,none⟩) b.parts.length c2,.slice a3 b.apart.length c3,.slice a4 b.aa.length c4],.int .i64 z,.int .i64 xn] X.1 (fun e qn=>e=.returned (.bool false)/\∃Y:an wr,qn=Y.1):=fun X=>
         (vK X).mono fun e w' ⟨⟨r,h1,h2⟩,h3⟩=>⟨by cases r with
           |false=>exact h1
           |true=>exact absurd h2.t GW,h3⟩
        clear GW;go_wp2
        refine aV (by kernel_rfl) (by kernel_rfl) ?_;repeat(go_big_quiet_step (first|(go_at_call 20;exact tq _)|(go_at_call 98;exact vK _)))
        refine wpQuiet_nil ?_;rintro _ ⟨X,rfl⟩;go_wp2
        go_round
        case rel=>exact⟨k+1,by omega,hN.o.succ HX.o.1 HA.o,by go_num,hB.o.trans (X.2.mono hz.o)⟩
        case measure=>simp[intOf];omega
      .have HA:Hid (zN b l k xn):=⟨HF.o,fun h=>absurd h wn⟩
       have j7:¬(0:Int)<(k:Int):=by omega
       go_wp2
       refine aV (by kernel_rfl) (by kernel_rfl) ?_;repeat(go_big_quiet_step (first|(go_at_call 20;exact tq _)))
       refine wpQuiet_nil ?_;rintro _ ⟨X,rfl⟩;go_wp2
       go_round
       case rel=>exact⟨k+1,by omega,hN.o.succ HX.o.1 HA.o,by go_num,hB.o.trans (X.2.mono hz.o)⟩
       case measure=>simp[intOf];omega
     .have HF:=hid pC;rw[decide_eq_false pC]at tq;clear pC;go_wp2
      refine aV (by kernel_rfl) (by kernel_rfl) ?_;repeat(go_big_quiet_step (first|(go_at_call 20;exact tq _)))
      refine wpQuiet_nil ?_;rintro _ ⟨X,rfl⟩;go_wp2
      go_ret
      exact bY.mk (r:=3) (iV GV.o HN.o fun h=>by
       obtain⟨P',LP,hm⟩:=(h k _ ap HX.o.1).fits;simp only[Int.toNat_natCast]at LP;rw[HX.o.2]at LP;cases LP;exact HF.o hm) ((Below.boxed hB.o).trans (X.2.mono (Nat.le_trans (Nat.le_succ _) hz.o)))
    .go_wp2
     go_ret;have e:k=l.length:=by omega
     subst e;exact bY.mk (r:=0) (nG ⟨GV.o,HN.o,hN.o⟩) (Below.boxed hB.o)
end Go.Proofs.Cz
namespace Go.Proofs.Cz
open Go.RowKit
structure tu (b:aS) (t:cU):Prop where
 GX:io b t.parts
 LQ:0<=t.lo/\t.lo<=t.hi/\t.hi<=99
def fC (b:aS) (k:Nat):Prop:=∀j t,j<k->b.aa[j]?=some t->tu b t
theorem fC.zero (b:aS):fC b 0:=fun j y h=>by omega
theorem fC.succ {b:aS} {x:cU} {k:Nat} (h:fC b k) (hy:b.aa[k]?=some x) (bE:tu b x):fC b (k+1):=fun j z hj hz=>by
 by_cases e:j=k
 .subst e;rw[hy]at hz;cases hz;exact bE
 .exact h j z (by omega) hz
structure Valid (b:aS):Prop where
 am:1<=b.am/\b.am<=99
 places:1<=b.places/\b.places<=4
 parts:tn b
 fP:j9 b
 many:b.aa.length<=4
 aa:fC b b.aa.length
end Go.Proofs.Cz
namespace Go.RowKit
theorem Below.ia {w w1:World} {o:Obj} (h:Below (w.alloc o).heap.size (w.alloc o) w1):Below (w.heap.size+1) (w.alloc o) w1:=by simpa using h
end Go.RowKit
namespace Go.Proofs.Cz
open Go.RowKit
end Go.Proofs.Cz
namespace Go.RowKit
theorem Below.iG {w w1 w2:World} {o:Obj} (h:Below (w.alloc o).heap.size (w.alloc o) w1) (k:Below w1.heap.size w1 w2):Below (w.heap.size+1) (w.alloc o) w2:=Below.ia (h.trans (k.mono h.size))
end Go.RowKit
namespace Go.Proofs.Cz
open Go.RowKit
theorem tv (w:World) (v:Value) (b:aS) (hb:ar w v b) (hs:rj b):
 Calls ZP 41 #[v] w (bY w fun s=>s=0↔Valid b):=by
 have HB:=hid hb;obtain⟨v2,v3,v4,rfl,⟨a2,c2,⟨rfl,_,_,_,_⟩,_⟩,⟨a3,c3,⟨rfl,_,_,_,_⟩,_⟩,⟨a4,c4,h4,f4⟩⟩:=hb;have H4:Hid (bS w v4 b.aa.length a4 c4/\_):=⟨h4,f4⟩
 obtain⟨rfl,l4,m4,n4,r4⟩:=h4;unfold maxLen at m4;clear r4 f4 n4;go_enter ZF41,Tryz.ntmps41
 have kB:=HB.o.later (Kp.alloc w (.cells #[.int .i64 b.am,.int .i64 b.places,.slice a2 b.parts.length c2,.slice a3 b.apart.length c3,.slice a4 b.aa.length c4] 26))
 go_wp2_with(first
  |(go_at_call 19;refine(GS _ _ _ _).mono ?_;rintro e w' ⟨r,rfl,hr,rfl⟩;cases r)
  |(go_at_call 84;refine(pz _ _ _ kB hs hr.t).mono ?_;rintro e w1 ⟨⟨r,rfl,LR⟩,yc⟩;by_cases Pq:r=0;obtain⟨g0,g1,g2,g3,g4⟩:=mZ.of yc.ia)
  |(go_at_call 85;refine(pB _ _ _ (HB.o.later (Kp.boxed yc.ia)) (LR.1 Pq).many).mono ?_;rintro e w2 ⟨⟨r2,rfl,Jh⟩,Ca⟩;by_cases MP:r2=0;obtain⟨q0,q1,q2,q3,q4⟩:=mZ.of (yc.iG Ca)))
 .go_ret;exact bY.mk (r:=1) (bad (by decide) fun h=>hr.f h.am) ((Below.refl _ _).alloc (Nat.le_refl _) _)
 .go_ret;exact bY.mk (r:=1) (bad (by decide) fun h=>hr.f h.places) ((Below.refl _ _).alloc (Nat.le_refl _) _)
 .rename_i Tm;go_ret;exact bY.mk (r:=2) (bad (by decide) fun h=>by have:=h.many;omega) (Below.boxed (yc.iG Ca))
 .have HV:Hid ((1<=b.am/\b.am<=99)/\(1<=b.places/\b.places<=4)/\tn b/\j9 b/\b.aa.length<=4):=by
   exact⟨Tr.t (by assumption),hr.t,LR.1 Pq,Jh.1 MP,by omega⟩
  have hB5:Hid (Below (w.heap.size+1) (w.alloc (.cells #[.int .i64 b.am,.int .i64 b.places,.slice a2 b.parts.length c2,.slice a3 b.apart.length c3,.slice a4 b.aa.length c4] 26)) w2):=yc.iG Ca;clear hr LR Jh yc Ca Pq MP q0 q1 q2 q3 q4 g0 g1 g2 g3 g4;go_loopw [5] (fun i w1=>∃k:Nat,k<=b.aa.length/\Hid (fC b k)/\i=.int .i64 k/\Hid (Below (w.heap.size+1) (w.alloc (.cells #[.int .i64 b.am,.int .i64 b.places,.slice a2 b.parts.length c2,.slice a3 b.apart.length c3,.slice a4 b.aa.length c4] 26)) w1)) (fun i _=>b.aa.length-(intOf i).toNat)
  case atStart=>exact⟨0,Nat.zero_le _,.zero _,rfl,hB5⟩
  case round=>
   obtain⟨k,hk,hN,rfl,hB⟩:=hrel;have gg:=mZ.of hB.o;by_cases ap:k<b.aa.length
   .obtain⟨⟨blk,off,sp⟩,t,rfl,hx,⟨vf,x0,hf⟩,x1,x2⟩:=H4.o.1.elem H4.o.2 ap;obtain rfl:sp=none:=x0.1;have yY:=hf;obtain⟨af,cf,⟨rfl,_,_,_,_⟩,_⟩:=hf;have HX:=hid hx;obtain⟨s0,s1,s2,s3,s4⟩:=gg;have G0:=fun X:an wr=>X.cell s0;have G1:=fun X:an wr=>X.cell s1;have G2:=fun X:an wr=>X.cell s2;have G3:=fun X:an wr=>X.cell s3;have G4:=fun X:an wr=>X.cell s4;have Y0:=fun X:an wr=>X.cell (x0.later (Kp.boxed hB.o)).2;have Y1:=fun X:an wr=>X.cell (x1.later (Kp.boxed hB.o)).2;have Y2:=fun X:an wr=>X.cell (x2.later (Kp.boxed hB.o)).2;simp only[<-Nat.add_assoc]at Y0 Y1 Y2;have lY:(k:Int)<(b.aa.length:Int):=by omega
    have hz:Hid (w.heap.size+1<=wr.heap.size):=by have:=hB.o.size;simp at this;exact(by omega:w.heap.size+1<=wr.heap.size)
    have Jq:∀X:an wr,Calls ZP 86 #[.agg #[.int .i64 b.am,.int .i64 b.places,.slice a2 b.parts.length c2,.slice a3 b.apart.length c3,.slice (some ⟨blk,off,none⟩) b.aa.length c4],.slice af t.parts.length cf] X.1 (fun e qn=>e=.returned (.int .i64 (dr b t.parts))/\∃Y:an wr,qn=Y.1):=fun X=>
     (m6 _ _ _ _ _ ((HB.o.later (Kp.boxed hB.o)).later X.kp) ((yY.later (Kp.boxed hB.o)).later X.kp) HV.o.2.2.1.many).mono fun e w' ⟨⟨r,h1,h2⟩,h3⟩=>⟨by rw[h1,h2],X.on h3⟩
    clear yY x0 x1 x2 hx;by_cases UH:dr b t.parts=0
    .have HM:Hid (io b t.parts):=kD.1 UH;go_wp2
     refine aV (by kernel_rfl) (by kernel_rfl) ?_;repeat(go_big_quiet_step (first|(go_at_call 86;exact Jq _)))
     refine wpQuiet_nil ?_;rintro _ ⟨X,rfl⟩;go_wp2_with(go_at_call 87;refine(px _ _ _ _ _).mono ?_;rintro e w' ⟨r,rfl,hr,rfl⟩;cases r)
     .go_ret;exact bY.mk (r:=1) (bad (by decide) fun h=>hr.f (h.aa k _ ap HX.o).LQ) (Below.alloc ((Below.boxed hB.o).trans (X.2.mono (Nat.le_trans (Nat.le_succ _) hz.o))) (Nat.le_trans (Nat.le_trans (Nat.le_succ _) hz.o) X.2.size) _)
     .have HT:Hid (tu b t):=⟨HM.o,hr.t⟩
      clear hr;go_round
      case rel=>exact⟨k+1,by omega,hN.o.succ HX.o HT.o,by go_num,Below.alloc (hB.o.trans (X.2.mono hz.o)) (Nat.le_trans hz.o X.2.size) _⟩
      case measure=>simp[intOf];omega
    .have HM:Hid (¬io b t.parts):=fun h=>UH (kD.2 h);go_wp2
     refine aV (by kernel_rfl) (by kernel_rfl) ?_;repeat(go_big_quiet_step (first|(go_at_call 86;exact Jq _)))
     refine wpQuiet_nil ?_;rintro _ ⟨X,rfl⟩;go_wp2
     go_ret;exact bY.mk (bad UH fun h=>HM.o (h.aa k _ ap HX.o).GX) ((Below.boxed hB.o).trans (X.2.mono (Nat.le_trans (Nat.le_succ _) hz.o)))
   .have HN:Hid (fC b b.aa.length):=(by have e:k=b.aa.length:=by omega
                                        subst e;exact hN.o)
    obtain⟨s0,s1,s2,s3,s4⟩:=gg;go_wp2
    go_ret;exact bY.mk (r:=0) ⟨fun _=>⟨HV.o.1,HV.o.2.1,HV.o.2.2.1,HV.o.2.2.2.1,HV.o.2.2.2.2,HN.o⟩,fun _=>rfl⟩ (Below.boxed hB.o)
 .go_ret;exact bY.mk (bad MP fun h=>MP (Jh.2 h.fP)) (Below.boxed (yc.iG Ca))
 .go_ret;exact bY.mk (bad Pq fun h=>Pq (LR.2 h.parts)) (Below.boxed yc.ia)
end Go.Proofs.Cz
namespace Go.Proofs.Cz
open Go.RowKit
theorem GY (w:World) (v:Value) (b:aS) (hb:ar w v b):
 Calls ZP 9 #[v] w (dq w fun r=>r=true->rj b/\Valid b):=by
 have HB:=hid hb;obtain⟨v2,v3,v4,rfl,⟨a2,c2,⟨rfl,_,_,_,_⟩,_⟩,⟨a3,c3,⟨rfl,_,_,_,_⟩,_⟩,⟨a4,c4,⟨rfl,_,_,_,_⟩,_⟩⟩:=hb;go_enter ZF9,Tryz.ntmps9
 have kB:=HB.o.later (Kp.alloc w (.cells #[.int .i64 b.am,.int .i64 b.places,.slice a2 b.parts.length c2,.slice a3 b.apart.length c3,.slice a4 b.aa.length c4] 26))
 go_wp2_with(first
  |(go_at_call 40;refine(Bj _ _ _ kB).mono ?_;rintro e w1 ⟨⟨r,rfl,LR⟩,yc⟩;cases r;have HS:Hid (rj b):=LR rfl;clear LR;obtain⟨g0,g1,g2,g3,g4⟩:=mZ.of yc.ia)
  |(go_at_call 41;refine(tv _ _ _ (HB.o.later (Kp.boxed yc.ia)) HS.o).mono ?_;rintro e w2 ⟨⟨r2,rfl,Jh⟩,Ca⟩;by_cases MP:r2=0))
 .have HV:Hid (Valid b):=Jh.1 MP;go_ret;exact dq.mk (fun _=>⟨HS.o,HV.o⟩) (Below.boxed (yc.iG Ca))
 .go_ret;exact dq.mk (fun h=>by simp_all) (Below.boxed (yc.iG Ca))
 .go_ret;exact dq.mk (fun h=>by cases h) (Below.boxed yc.ia)
end Go.Proofs.Cz
