/- A part. Conditions: none. -/
import Derived.Test.YtddlcmejelobdaaGreatDoorT24
import Derived.Laws.StructEq
set_option linter.all false
set_option maxHeartbeats 8000000
noncomputable section
namespace Go.Proofs.Cz
open Go.RowKit
variable {k:Nat} {n p q:Int} {w w0:nq} {x:Int×Int}
@[go_sem] theorem WD:ZP.eqGuardType ZP.depth 53=false:=by kernel_rfl
structure rE (n:Int) (x:Int×Int):Prop where
 one:0<=x.1/\x.1<=n-1
 two:0<=x.2/\x.2<=n-1
 le:x.1<=x.2
def ii (l:List (Int×Int)) (x:Int×Int) (k:Nat):Prop:=∀j y,j<k->l[j]?=some y->y≠x
def ii.zero (l:List (Int×Int)) (x:Int×Int):ii l x 0:=λj y h=>by omega
def ii.succ {l:List (Int×Int)} {y:Int×Int} (h:ii l x k) (hy:l[k]?=some y) (bC:y≠x):ii l x (k+1):=λj z hj hz=>by
 by_cases e:j=k
 .subst e;rw[hy]at hz;cases hz;exact bC
 .exact h j z (by omega) hz
def lA (n:Int) (l:List (Int×Int)) (k:Nat):Prop:=∀j x,j<k->l[j]?=some x->rE n x/\ii l x j
def lA.zero (n:Int) (l:List (Int×Int)):lA n l 0:=λj y h=>by omega
def lA.succ {l:List (Int×Int)} (h:lA n l k) (hx:l[k]?=some x) (h1:rE n x) (h2:ii l x k):lA n l (k+1):=λj z hj hz=>by
 by_cases e:j=k
 .subst e;rw[hx]at hz;cases hz;exact⟨h1,h2⟩
 .exact h j z (by omega) hz
structure fQ (b:ab):Prop where
 many:b.aL.length<=5
 all:lA b.ptz.length b.aL b.aL.length
def vk (w:nq) (v:fu) (b:ab) (hb:ar w v b) (hp:1<=b.ptz.length/\b.ptz.length<=5):
 Calls ZP 106 #[v] w (br w λs=>s=0↔fQ b):=by
 obtain⟨v2,v3,v4,rfl,⟨a2,c2,h2,f2⟩,⟨a3,c3,h3,f3⟩,h4⟩:=hb;have H3:Hid (bT w v3 b.aL.length a3 c3/\_):=⟨h3,f3⟩
 obtain⟨rfl,l2,m2,n2,r2⟩:=h2;obtain⟨rfl,l3,m3,n3,r3⟩:=h3;unfold maxLen at m2 m3;clear r2 f2 n2 r3 f3 n3 h4;have iO:wrap64 ((b.ptz.length:Int)-1)=b.ptz.length-1:=by unfold wrap64;omega
 go_enter ZF106,Tryz.ntmps106
 go_wp2
 .rename_i hm;go_ret;exact br.mk (r:=2) (bad (by decide) λh=>by have:=h.many;omega) ((Below.refl _ _).alloc (zAB _) _)
 rename_i hm;go_loopw [3] (λi w1=>∃k:Nat,k<=b.aL.length/\Hid (lA b.ptz.length b.aL k)/\i=.int .i64 k/\Hid (Below (w.heap.size+1) (w.alloc (.cells #[.int .i64 b.ak,.int .i64 b.ah,.slice a2 b.ptz.length c2,.slice a3 b.aL.length c3,v4] 26)) w1)) (λi _=>b.aL.length-(intOf i).toNat)
 case atStart=>exact⟨0,zAM _,.zero _ _,rfl,Below.refl _ _⟩
 case round=>
  obtain⟨k,hk,hN,rfl,hB⟩:=hrel;have g2:=boxed hB.o 2;have g3:=boxed hB.o 3;simp only[zCA,zBN,zBF]at g2 g3;by_cases av:k<b.aL.length
  .obtain⟨⟨blk,off,sp⟩,⟨xa,xb⟩,rfl,hx,x0,x1⟩:=H3.o.1.elem H3.o.2 av;obtain rfl:sp=none:=x0.1;have HX:=hid hx;have y0:=(x0.later (Kp.boxed hB.o)).2;have y1:=(x1.later (Kp.boxed hB.o)).2;simp only[<-zBD]at y0 y1;have nI:w.heap.size+1<=wr.heap.size:=by have:=hB.o.size;simp at this;omega
   have qm:blk<w.heap.size:=x0.lt;have Zi:∀o,(wr.alloc o).cell? ⟨w.heap.size,2,none⟩=some (.slice a2 b.ptz.length c2):=λo=>(eR (by show w.heap.size<_;omega) o).trans g2;have g3':∀o,(wr.alloc o).cell? ⟨w.heap.size,3,none⟩=some (.slice (some ⟨blk,off,none⟩) b.aL.length c3):=λo=>(eR (by show w.heap.size<_;omega) o).trans g3;clear x0 x1 hx;go_wp2_with(go_at_call 12;refine(Q7 _ _ _ _).mono ?_;rintro e w' ⟨r,rfl,hr,rfl⟩;cases r)
   .go_ret;exact br.mk (r:=6) (bad (by decide) λh=>hr.f (h.all k _ av HX.o).1.one) (Below.one (Below.boxed hB.o) (by omega) _ 0)
   .go_ret;exact br.mk (r:=6) (bad (by decide) λh=>hr.f (h.all k _ av HX.o).1.two) (Below.one (Below.boxed hB.o) (by omega) _ 0)
   .rename_i zA;go_ret;exact br.mk (r:=7) (bad (by decide) λh=>absurd (h.all k _ av HX.o).1.le (by simp only;omega)) (Below.one (Below.boxed hB.o) (by omega) _ 0)
   rename_i sn hle;have HK:Hid (rE b.ptz.length (xa,xb)):=⟨sn.t,hr.t,hle⟩
   have HL:=hid av;clear hr sn hle;go_loopw [5] (λi w2=>∃m:Nat,m<=k/\Hid (ii b.aL (xa,xb) m)/\i=.int .i64 m/\∃n,w2=(wr.alloc (.cells #[.int .i64 xa,.int .i64 xb] 53)).drewN n) (λi _=>k-(intOf i).toNat)
   case atStart=>exact⟨0,zAM _,.zero _ _,rfl,0,rfl⟩
   case round=>
    obtain⟨m,hm2,hM,rfl,n0,rfl⟩:=hrel;by_cases iS:m<k
    .obtain⟨b',⟨ya,yb⟩,Nm,hy,z0,z1⟩:=H3.o.1.elem H3.o.2 (show m<b.aL.length by have:=HL.o;omega);cases Nm;have q0:=((z0.later (Kp.boxed hB.o)).later (Kp.alloc wr (.cells #[.int .i64 xa,.int .i64 xb] 53))).2;have q1:=((z1.later (Kp.boxed hB.o)).later (Kp.alloc wr (.cells #[.int .i64 xa,.int .i64 xb] 53))).2;simp only[<-zBD]at q0 q1;have HY:=hid hy;have zaQ:(m:Int)<(k:Int):=by omega
     have Pa:(m:Int)<(b.aL.length:Int):=by omega
     clear hy z0 z1;have hB1:=Below.one (Below.boxed hB.o) (by omega) (.cells #[.int .i64 xa,.int .i64 xb] 53);have cV:=hid hB1;clear hB1;by_cases e1:ya=xa
     .by_cases e2:yb=xb
      .subst e1 e2;go_wp2
       go_quiet (fail)
       go_wp2
       go_ret;exact br.mk (r:=5) (bad (by decide) λh=>(h.all k _ HL.o HX.o).2 m _ iS HY.o rfl) (Below.drewN (cV.o _) _)
      .subst e1;have bC:Hid ((ya,yb)≠(ya,xb)):=(λh=>e2 (by cases h;rfl):(ya,yb)≠(ya,xb))
       go_wp2
       go_quiet (fail)
       go_wp2
       go_round
       case rel=>exact⟨m+1,by omega,hM.o.succ HY.o bC.o,by go_num,_,rfl⟩
       case measure=>simp[intOf];omega
     .have bC:Hid ((ya,yb)≠(xa,xb)):=(λh=>e1 (by cases h;rfl):(ya,yb)≠(xa,xb))
      go_wp2
      go_quiet (fail)
      go_wp2
      go_round
      case rel=>exact⟨m+1,by omega,hM.o.succ HY.o bC.o,by go_num,_,rfl⟩
      case measure=>simp[intOf];omega
    .have HM:Hid (ii b.aL (xa,xb) k):=(by have e:m=k:=(by omega);subst e;exact hM.o)
     go_wp2
     go_round
     case rel=>exact⟨k+1,by omega,hN.o.succ HX.o HK.o HM.o,by go_num,Below.one hB.o (by omega) _ _⟩
     case measure=>simp[intOf];omega
  .go_wp2
   go_ret;have e:k=b.aL.length:=by omega
   subst e;exact br.mk (r:=0) ⟨λ_=>⟨by omega,hN.o⟩,λ_=>rfl⟩ (Below.boxed hB.o)
def vn (x:Int×Int) (p q:Int):Prop:=x.1=p/\x.2=q\/x.1=q/\x.2=p
def Apart (l:List (Int×Int)) (p q:Int):Prop:=∃x∈l,vn x p q
def sE (l:List (Int×Int)) (p q:Int) (k:Nat):Prop:=∀j x,j<k->l[j]?=some x->¬vn x p q
def sE.zero (l:List (Int×Int)) (p q:Int):sE l p q 0:=λj y h=>by omega
def sE.succ {l:List (Int×Int)} (h:sE l p q k) (hy:l[k]?=some x) (bC:¬vn x p q):sE l p q (k+1):=λj z hj hz=>by
 by_cases e:j=k
 .subst e;rw[hy]at hz;cases hz;exact bC
 .exact h j z (by omega) hz
def sE.all {l:List (Int×Int)} (h:sE l p q l.length):¬Apart l p q:=λ⟨x,hm,hx⟩=>by
 obtain⟨j,hj,rfl⟩:=zCQ hm;exact h j _ hj (zAJ hj) hx
def sF (w:nq) (v:fu) (b:ab) (p q:Int) (hb:ar w v b):
 Calls ZP 112 #[v,.int .i64 p,.int .i64 q] w (dq w λr=>Tr r (Apart b.aL p q)):=by
 obtain⟨v2,v3,v4,rfl,h2,⟨a3,c3,h3,f3⟩,h4⟩:=hb;have H3:Hid (bT w v3 b.aL.length a3 c3/\_):=⟨h3,f3⟩
 obtain⟨rfl,l3,m3,n3,r3⟩:=h3;obtain⟨a2,c2,⟨rfl,_,_,_,_⟩,_⟩:=h2;obtain⟨a4,c4,⟨rfl,_,_,_,_⟩,_⟩:=h4;unfold maxLen at m3;clear r3 f3 n3;go_enter ZF112,Tryz.ntmps112
 go_wp2
 go_loopw [7] (λi w1=>∃k:Nat,k<=b.aL.length/\Hid (sE b.aL p q k)/\i=.int .i64 k/\Hid (Below (w.heap.size+1) (w.alloc (.cells #[.int .i64 b.ak,.int .i64 b.ah,.slice a2 b.ptz.length c2,.slice a3 b.aL.length c3,.slice a4 b.aX.length c4] 26)) w1)) (λi _=>b.aL.length-(intOf i).toNat)
 case atStart=>exact⟨0,zAM _,.zero _ _ _,rfl,Below.refl _ _⟩
 case round=>
  obtain⟨k,hk,hN,rfl,hB⟩:=hrel;have g3:=boxed hB.o 3;simp only[zCA,zBN,zBF]at g3;by_cases av:k<b.aL.length
  .obtain⟨⟨blk,off,sp⟩,⟨xa,xb⟩,rfl,hx,x0,x1⟩:=H3.o.1.elem H3.o.2 av;obtain rfl:sp=none:=x0.1;have HX:=hid hx;have y0:=(x0.later (Kp.boxed hB.o)).2;have y1:=(x1.later (Kp.boxed hB.o)).2;simp only[<-zBD]at y0 y1;have nI:w.heap.size+1<=wr.heap.size:=by have:=hB.o.size;simp at this;omega
   have HZ:=hid nI;clear x0 x1 hx;by_cases e:vn (xa,xb) p q
   .have hm:=zBI HX.o;rcases(show xa=p/\xb=q\/xa=q/\xb=p from e)with⟨rfl,rfl⟩|⟨rfl,rfl⟩
    .go_wp2
     go_ret;exact dq.mk (.yes ⟨_,hm,.inl ⟨rfl,rfl⟩⟩) (Below.one (Below.boxed hB.o) (by omega) _ 0)
    .by_cases e3:xa=xb
     .subst e3;go_wp2
      go_ret;exact dq.mk (.yes ⟨_,hm,.inl ⟨rfl,rfl⟩⟩) (Below.one (Below.boxed hB.o) (by omega) _ 0)
     .go_wp2
      go_ret;exact dq.mk (.yes ⟨_,hm,.inr ⟨rfl,rfl⟩⟩) (Below.one (Below.boxed hB.o) (by omega) _ 0)
   .have HE:=hid e;have e1:¬(xa=p/\xb=q):=λh=>e (.inl h);have e2:¬(xa=q/\xb=p):=λh=>e (.inr h);clear e;by_cases a1:xa=p
    .subst a1;have a2:¬xb=q:=λh=>e1 ⟨rfl,h⟩;clear e1;by_cases a3:xa=q
     .subst a3;clear e2;go_wp2
      go_round
      case rel=>exact⟨k+1,by omega,hN.o.succ HX.o HE.o,by go_num,Below.one hB.o HZ.o _ 0⟩
      case measure=>simp[intOf];omega
     .clear e2;go_wp2
      go_round
      case rel=>exact⟨k+1,by omega,hN.o.succ HX.o HE.o,by go_num,Below.one hB.o HZ.o _ 0⟩
      case measure=>simp[intOf];omega
    .clear e1;by_cases a3:xa=q
     .subst a3;have a4:¬xb=p:=λh=>e2 ⟨rfl,h⟩;clear e2;go_wp2
      go_round
      case rel=>exact⟨k+1,by omega,hN.o.succ HX.o HE.o,by go_num,Below.one hB.o HZ.o _ 0⟩
      case measure=>simp[intOf];omega
     .clear e2;go_wp2
      go_round
      case rel=>exact⟨k+1,by omega,hN.o.succ HX.o HE.o,by go_num,Below.one hB.o HZ.o _ 0⟩
      case measure=>simp[intOf];omega
  .go_wp2
   go_ret;have e:k=b.aL.length:=by omega
   subst e;exact dq.mk (.no hN.o.all) (Below.boxed hB.o)
def am (w0:nq):Type:={w:nq//Below w0.heap.size w0 w}
instance (w0 : nq) : Nonempty (am w0) := ⟨⟨w0, Below.refl _ _⟩⟩
def am.cell (X:am w0) {a:Addr} {v:fu} (h:w0.cell? a=some v):X.1.cell? a=some v:=by
 have hk:a.block<w0.heap.size:=by
  unfold World.cell? at h;split at h
  .rename_i hx;exact(zAD.1 hx).1
  .cases h
 exact(World.cell?_of_block (X.2.block _ hk)).trans h
def am.kp (X:am w0):Kp w0 X.1:=Kp.of X.2
def am.on (X:am w0) (h:Below X.1.heap.size X.1 w):∃Y:am w0,w=Y.1:=⟨⟨w,X.2.trans (h.mono X.2.size)⟩,rfl⟩
def am.same (X:am w0) (h:w=X.1):∃Y:am w0,w=Y.1:=⟨X,h⟩
def ap {P:un} {id:Nat} {Q:Exit->Act->nq->Prop} {a:Act} {l:List Oper} (hm:P.follows .mixedOrders=true) (hB:Region.lexB .any l.toArray=true)
 (h:wpQuiet P l.toArray (λw'=>∃X:am w,w'=X.1) (λa'=>∀w',(∃X:am w,w'=X.1)->Q .normal a' w') l a):(Code.region id l.toArray true).wp P Q a w:=
 wp_region_quiet (C:=λw'=>∃X:am w,w'=X.1) hm hB ⟨⟨_,Below.drewN (Below.refl _ w) 1⟩,rfl⟩ (by simpa using h)
def m6 (l:List Int) (n:Int) (k:Nat):Prop:=∀(j:Nat) (x:Int),j<k->l[j]?=some x->0<=x/\x<=n-1
def m6.zero (l:List Int) (n:Int):m6 l n 0:=λj y h=>by omega
def m6.succ {l:List Int} {x:Int} (h:m6 l n k) (hy:l[k]?=some x) (bC:0<=x/\x<=n-1):m6 l n (k+1):=λj z hj hz=>by
 by_cases e:j=k
 .subst e;rw[hy]at hz;cases hz;exact bC
 .exact h j z (by omega) hz
structure Is (b:ab) (l:List Int) (j:Nat) (x:Int):Prop where
 fits:∃P,b.ptz[x.toNat]?=some P/\(j:Int)∈P.fits
 Ux:0<j->∀y,l[j-1]?=some y->¬Apart b.aL y x
def lV (b:ab) (l:List Int) (k:Nat):Prop:=∀j x,j<k->l[j]?=some x->Is b l j x
def lV.zero (b:ab) (l:List Int):lV b l 0:=λj y h=>by omega
def lV.succ {b:ab} {l:List Int} {x:Int} (h:lV b l k) (hy:l[k]?=some x) (bC:Is b l k x):lV b l (k+1):=λj z hj hz=>by
 by_cases e:j=k
 .subst e;rw[hy]at hz;cases hz;exact bC
 .exact h j z (by omega) hz
structure cO (b:ab) (l:List Int):Prop where
 len:(l.length:Int)=b.ah
 range:m6 l b.ptz.length l.length
 fit:lV b l l.length
open Classical in
def aK (b:ab) (l:List Int):Int:=
 if(l.length:Int)=b.ah then if m6 l b.ptz.length l.length then if lV b l l.length then 0 else 3 else 6 else 2
section
variable {b:ab} {l:List Int}
def lB (h:¬(l.length:Int)=b.ah):2=aK b l:=by unfold aK;rw[zAG h]
def m7 (h:(l.length:Int)=b.ah) (h2:¬m6 l b.ptz.length l.length):6=aK b l:=by unfold aK;rw[zAF h,zAG h2]
def gM (h:(l.length:Int)=b.ah) (h2:m6 l b.ptz.length l.length) (h3:¬lV b l l.length):3=aK b l:=by unfold aK;rw[zAF h,zAF h2,zAG h3]
def m8 (h:cO b l):0=aK b l:=by unfold aK;rw[zAF h.len,zAF h.range,zAF h.fit]
def bV:aK b l=0↔cO b l:=by
 refine⟨λh=>?_,λh=>(m8 h).symm⟩;by_cases h1:(l.length:Int)=b.ah
 .by_cases h2:m6 l b.ptz.length l.length
  .by_cases h3:lV b l l.length
   .exact⟨h1,h2,h3⟩
   .rw[<-gM h1 h2 h3]at h;cases h
  .rw[<-m7 h1 h2]at h;cases h
 .rw[<-lB h1]at h;cases h
end
structure oV (w:nq) (g:Nat) (v0 v1 v2 v3 v4:fu):Prop where
 c0:w.cell? ⟨g,0,none⟩=some v0
 c1:w.cell? ⟨g,1,none⟩=some v1
 c2:w.cell? ⟨g,2,none⟩=some v2
 c3:w.cell? ⟨g,3,none⟩=some v3
 c4:w.cell? ⟨g,4,none⟩=some v4
def oV.of {w1:nq} {v0 v1 v2 v3 v4:fu} (h:Below (w.heap.size+1) (w.alloc (.cells #[v0,v1,v2,v3,v4] 26)) w1):oV w1 w.heap.size v0 v1 v2 v3 v4:=
 ⟨boxed h 0,boxed h 1,boxed h 2,boxed h 3,boxed h 4⟩
def qv (w:nq) (v vl:fu) (b:ab) (l:List Int) (hb:ar w v b) (hl:ao w vl l):
 Calls ZP 107 #[v,vl] w (br w λs=>s=aK b l):=by
 have HB:=hid hb;obtain⟨v2,v3,v4,rfl,⟨a2,c2,h2,f2⟩,⟨a3,c3,⟨rfl,_,_,_,_⟩,_⟩,⟨a4,c4,⟨rfl,_,_,_,_⟩,_⟩⟩:=hb;obtain⟨al,cl,te,fl⟩:=hl;have H2:Hid (bT w v2 b.ptz.length a2 c2/\_):=⟨h2,f2⟩
 have HL:Hid (bT w vl l.length al cl/\_):=⟨te,fl⟩
 obtain⟨rfl,l2,m2,n2,r2⟩:=h2;obtain⟨rfl,ll,ml,nl,rl⟩:=te;unfold maxLen at m2 ml;clear r2 f2 n2 rl fl nl;have iO:wrap64 ((b.ptz.length:Int)-1)=b.ptz.length-1:=by unfold wrap64;omega
 go_enter ZF107,Tryz.ntmps107
 by_cases hlen:(l.length:Int)=b.ah
 case neg=>
  go_wp2
  go_ret;exact br.mk (r:=2) (lB hlen) ((Below.refl _ _).alloc (zAB _) _)
 have vp:=hid hlen;have bC:((l.length:Int)!=b.ah)=false:=by simp[hlen]
 clear hlen;go_wp2
 go_loopw [5] (λi w1=>∃k:Nat,k<=l.length/\Hid (m6 l b.ptz.length k)/\i=.int .i64 k/\Hid (Below (w.heap.size+1) (w.alloc (.cells #[.int .i64 b.ak,.int .i64 b.ah,.slice a2 b.ptz.length c2,.slice a3 b.aL.length c3,.slice a4 b.aX.length c4] 26)) w1)) (λi _=>l.length-(intOf i).toNat)
 case atStart=>exact⟨0,zAM _,.zero _ _,rfl,Below.refl _ _⟩
 case round=>
  obtain⟨k,hk,hN,rfl,hB⟩:=hrel;obtain⟨g0,g1,g2,g3,g4⟩:=oV.of hB.o;by_cases av:k<l.length
  .obtain⟨⟨blk,off,sp⟩,x,rfl,hx,x0⟩:=HL.o.1.elem HL.o.2 av;obtain rfl:sp=none:=x0.1;have HX:=hid hx;have y0:=(x0.later (Kp.boxed hB.o)).2;simp only at y0;have f7:(k:Int)<(l.length:Int):=by omega
   clear x0 hx;by_cases e:0<=x/\x<=(b.ptz.length:Int)-1
   .have HE:=hid e;have hd:(decide (0<=x)&&decide (x<=(b.ptz.length:Int)-1))=true:=by simpa using e
    clear e;go_wp2
    go_quiet ((go_at_call 12;exact(rC _ _ _ _).mono λe w' h=>⟨h.1.trans (by rw[hd]),_,h.2⟩))
    go_wp2
    go_round
    case rel=>exact⟨k+1,by omega,hN.o.succ HX.o HE.o,by go_num,Below.drewN hB.o _⟩
    case measure=>simp[intOf];omega
   .have HE:=hid e
    have hd:(decide (0<=x)&&decide (x<=(b.ptz.length:Int)-1))=false:=by
     cases hh:(decide (0<=x)&&decide (x<=(b.ptz.length:Int)-1))with
     |false=>rfl
     |true=>exact absurd (by simpa using hh) e
    clear e;go_wp2
    go_quiet ((go_at_call 12;exact(rC _ _ _ _).mono λe w' h=>⟨h.1.trans (by rw[hd]),_,h.2⟩))
    go_wp2
    go_ret;exact br.mk (r:=6) (m7 vp.o λh=>HE.o (h k x av HX.o)) (Below.drewN (Below.boxed hB.o) _)
  .have HN:Hid (m6 l b.ptz.length l.length):=(by have e:k=l.length:=(by omega);subst e;exact hN.o)
   clear hN;go_wp2
   go_loopw [6] (λi w1=>∃k:Nat,k<=l.length/\Hid (lV b l k)/\i=.int .i64 k/\Hid (Below (w.heap.size+1) (w.alloc (.cells #[.int .i64 b.ak,.int .i64 b.ah,.slice a2 b.ptz.length c2,.slice a3 b.aL.length c3,.slice a4 b.aX.length c4] 26)) w1)) (λi _=>l.length-(intOf i).toNat)
   case atStart=>exact⟨0,zAM _,.zero _ _,rfl,hB.o⟩
   case round=>
    clear g0 g1 g2 g3 g4 hB av hk;obtain⟨k,hk,hN,rfl,hB⟩:=hrel;have gg:=oV.of hB.o;by_cases av:k<l.length
    .obtain⟨⟨blk,off,sp⟩,x,rfl,hx,x0⟩:=HL.o.1.elem HL.o.2 av;obtain rfl:sp=none:=x0.1;obtain⟨xn,rfl⟩:=Int.eq_ofNat_of_zero_le (HN.o k x av hx).1;have hxr:=(HN.o k xn av hx).2;have Ll:xn<b.ptz.length:=by omega
     obtain⟨⟨pb,po,ps⟩,P,rfl,hP,_,_,_,_,_,vf,p5,Lv⟩:=H2.o.1.elem H2.o.2 Ll;obtain rfl:ps=none:=p5.1;have hf:=Lv;obtain⟨af,cf,⟨rfl,_,_,_,_⟩,_⟩:=Lv;have HX:Hid (l[k]?=some (xn:Int)/\b.ptz[xn]?=some P):=⟨hx,hP⟩
     have G0:=λX:am wr=>X.cell gg.c0;have G1:=λX:am wr=>X.cell gg.c1;have G2:=λX:am wr=>X.cell gg.c2;have G3:=λX:am wr=>X.cell gg.c3;have G4:=λX:am wr=>X.cell gg.c4;have Y0:=λX:am wr=>X.cell (x0.later (Kp.boxed hB.o)).2;have Y5:=λX:am wr=>X.cell (p5.later (Kp.boxed hB.o)).2;simp only[<-zBD]at Y0 Y5;have f7:(k:Int)<(l.length:Int):=by omega
     have hx2:(xn:Int)<(b.ptz.length:Int):=by omega
     have hz:Hid (w.heap.size+1<=wr.heap.size):=by have:=hB.o.size;simp at this;exact(by omega:w.heap.size+1<=wr.heap.size)
     clear x0 hx hP p5 gg
     have tx:∀X:am wr,Calls ZP 77 #[.slice af P.fits.length cf,.int .i64 k] X.1 (λe jy=>e=.returned (.bool (decide ((k:Int)∈P.fits)))/\∃Y:am wr,jy=Y.1):=λX=>
      (Iq _ _ _ _ ((hf.later (Kp.boxed hB.o)).later X.kp)).mono λe w' h=>⟨h.1,X.same h.2⟩
     by_cases mF:(k:Int)∈P.fits
     .have HF:Hid (∃P,b.ptz[((xn:Int)).toNat]?=some P/\(k:Int)∈P.fits):=⟨P,by simpa using HX.o.2,mF⟩
      rw[zDS mF]at tx;clear mF;by_cases qZ:0<k
      .obtain⟨b',z,Nm,TU,z0⟩:=HL.o.1.elem HL.o.2 (show k-1<l.length by omega);cases Nm;have Z0:=λX:am wr=>X.cell (z0.later (Kp.boxed hB.o)).2;simp only at Z0;have HZ:Hid (l[k-1]?=some z):=TU;have nS:wrap64 ((k:Int)-1)=((k-1:Nat):Int):=by unfold wrap64;omega
       have mi:(0:Int)<(k:Int):=by omega
       have mw:((k-1:Nat):Int)<(l.length:Int):=by omega
       clear z0 TU
       have oW:∀X:am wr,Calls ZP 112 #[.agg #[.int .i64 b.ak,.int .i64 b.ah,.slice (some ⟨pb,po,none⟩) b.ptz.length c2,.slice a3 b.aL.length c3,.slice a4 b.aX.length c4],.int .i64 z,.int .i64 xn] X.1 (λe jy=>(∃r,e=.returned (.bool r)/\Tr r (Apart b.aL z xn))/\∃Y:am wr,jy=Y.1):=λX=>
        (sF _ _ _ _ _ ((HB.o.later (Kp.boxed hB.o)).later X.kp)).mono λe w' h=>⟨h.1,X.on h.2⟩
       by_cases tz:Apart b.aL z xn
       .have HA:=hid tz
        have oW:∀X:am wr,Calls ZP 112 #[.agg #[.int .i64 b.ak,.int .i64 b.ah,.slice (some ⟨pb,po,none⟩) b.ptz.length c2,.slice a3 b.aL.length c3,.slice a4 b.aX.length c4],.int .i64 z,.int .i64 xn] X.1 (λe jy=>e=.returned (.bool true)/\∃Y:am wr,jy=Y.1):=λX=>
         (oW X).mono λe w' ⟨⟨r,h1,h2⟩,h3⟩=>⟨by rw[h1,h2.2 tz],h3⟩
        clear tz;go_wp2
        refine ap (by kernel_rfl) (by kernel_rfl) ?_;repeat(go_big_quiet_step (first|(go_at_call 77;exact tx _)|(go_at_call 112;exact oW _)))
        refine wpQuiet_nil ?_;rintro _ ⟨X,rfl⟩;go_wp2
        go_ret;exact br.mk (r:=3) (gM vp.o HN.o λh=>(h k _ av HX.o.1).Ux qZ z HZ.o HA.o) ((Below.boxed hB.o).trans (X.2.mono (zAP (zDH _) hz.o)))
       .have HA:Hid (Is b l k xn):=⟨HF.o,λ_ y hy=>by rw[HZ.o]at hy;cases hy;exact tz⟩
        have oW:∀X:am wr,Calls ZP 112 #[.agg #[.int .i64 b.ak,.int .i64 b.ah,.slice (some ⟨pb,po,none⟩) b.ptz.length c2,.slice a3 b.aL.length c3,.slice a4 b.aX.length c4],.int .i64 z,.int .i64 xn] X.1 (λe jy=>e=.returned (.bool false)/\∃Y:am wr,jy=Y.1):=λX=>
         (oW X).mono λe w' ⟨⟨r,h1,h2⟩,h3⟩=>⟨by cases r with
           |false=>exact h1
           |true=>exact absurd h2.t tz,h3⟩
        clear tz;go_wp2
        refine ap (by kernel_rfl) (by kernel_rfl) ?_;repeat(go_big_quiet_step (first|(go_at_call 77;exact tx _)|(go_at_call 112;exact oW _)))
        refine wpQuiet_nil ?_;rintro _ ⟨X,rfl⟩;go_wp2
        go_round
        case rel=>exact⟨k+1,by omega,hN.o.succ HX.o.1 HA.o,by go_num,hB.o.trans (X.2.mono hz.o)⟩
        case measure=>simp[intOf];omega
      .have HA:Hid (Is b l k xn):=⟨HF.o,λh=>absurd h qZ⟩
       have mi:¬(0:Int)<(k:Int):=by omega
       go_wp2
       refine ap (by kernel_rfl) (by kernel_rfl) ?_;repeat(go_big_quiet_step (first|(go_at_call 77;exact tx _)))
       refine wpQuiet_nil ?_;rintro _ ⟨X,rfl⟩;go_wp2
       go_round
       case rel=>exact⟨k+1,by omega,hN.o.succ HX.o.1 HA.o,by go_num,hB.o.trans (X.2.mono hz.o)⟩
       case measure=>simp[intOf];omega
     .have HF:=hid mF;rw[zDV mF]at tx;clear mF;go_wp2
      refine ap (by kernel_rfl) (by kernel_rfl) ?_;repeat(go_big_quiet_step (first|(go_at_call 77;exact tx _)))
      refine wpQuiet_nil ?_;rintro _ ⟨X,rfl⟩;go_wp2
      go_ret
      exact br.mk (r:=3) (gM vp.o HN.o λh=>by
       obtain⟨P',Yh,hm⟩:=(h k _ av HX.o.1).fits;simp only[zEA]at Yh;rw[HX.o.2]at Yh;cases Yh;exact HF.o hm) ((Below.boxed hB.o).trans (X.2.mono (zAP (zDH _) hz.o)))
    .go_wp2
     go_ret;have e:k=l.length:=by omega
     subst e;exact br.mk (r:=0) (m8 ⟨vp.o,HN.o,hN.o⟩) (Below.boxed hB.o)
def rF (w:nq) (v vl:fu) (b:ab) (l:List Int) (hb:ar w v b) (hl:ao w vl l) (hp:1<=b.ptz.length/\b.ptz.length<=5):
 Calls ZP 107 #[v,vl] w (br w λs=>s=aK b l):=
 qv w v vl b l hb hl
end Go.Proofs.Cz
namespace Go.Proofs.Cz
open Go.RowKit
structure qw (b:ab) (t:eH):Prop where
 Nr:cO b t.ptz
 WE:0<=t.lo/\t.lo<=t.hi/\t.hi<=99
def gN (b:ab) (k:Nat):Prop:=∀j t,j<k->b.aX[j]?=some t->qw b t
def gN.zero (b:ab):gN b 0:=λj y h=>by omega
def gN.succ {b:ab} {x:eH} {k:Nat} (h:gN b k) (hy:b.aX[k]?=some x) (bC:qw b x):gN b (k+1):=λj z hj hz=>by
 by_cases e:j=k
 .subst e;rw[hy]at hz;cases hz;exact bC
 .exact h j z (by omega) hz
structure Valid (b:ab):Prop where
 ak:1<=b.ak/\b.ak<=99
 ah:1<=b.ah/\b.ah<=4
 ptz:tS b
 gJ:fQ b
 many:b.aX.length<=4
 aX:gN b b.aX.length
end Go.Proofs.Cz
namespace Go.RowKit
def Below.iy {w w1:nq} {o:Obj} (h:Below (w.alloc o).heap.size (w.alloc o) w1):Below (w.heap.size+1) (w.alloc o) w1:=by simpa using h
end Go.RowKit
namespace Go.Proofs.Cz
open Go.RowKit
end Go.Proofs.Cz
namespace Go.RowKit
def Below.kJ {w w1 w2:nq} {o:Obj} (h:Below (w.alloc o).heap.size (w.alloc o) w1) (k:Below w1.heap.size w1 w2):Below (w.heap.size+1) (w.alloc o) w2:=Below.iy (h.trans (k.mono h.size))
end Go.RowKit
namespace Go.Proofs.Cz
open Go.RowKit
def Ap (w:nq) (v:fu) (b:ab) (hb:ar w v b) (hs:d9 b):
 Calls ZP 43 #[v] w (br w λs=>s=0↔Valid b):=by
 have HB:=hid hb;obtain⟨v2,v3,v4,rfl,⟨a2,c2,⟨rfl,_,_,_,_⟩,_⟩,⟨a3,c3,⟨rfl,_,_,_,_⟩,_⟩,⟨a4,c4,h4,f4⟩⟩:=hb;have H4:Hid (bT w v4 b.aX.length a4 c4/\_):=⟨h4,f4⟩
 obtain⟨rfl,l4,m4,n4,r4⟩:=h4;unfold maxLen at m4;clear r4 f4 n4;go_enter ZF43,Tryz.ntmps43
 have cV:=HB.o.later (Kp.alloc w (.cells #[.int .i64 b.ak,.int .i64 b.ah,.slice a2 b.ptz.length c2,.slice a3 b.aL.length c3,.slice a4 b.aX.length c4] 26))
 go_wp2_with(first
  |(go_at_call 12;refine(Q7 _ _ _ _).mono ?_;rintro e w' ⟨r,rfl,hr,rfl⟩;cases r)
  |(go_at_call 105;refine(vi _ _ _ cV hs hr.t).mono ?_;rintro e w1 ⟨⟨r,rfl,WG⟩,vd⟩;by_cases h84:r=0;obtain⟨g0,g1,g2,g3,g4⟩:=oV.of vd.iy)
  |(go_at_call 106;refine(vk _ _ _ (HB.o.later (Kp.boxed vd.iy)) (WG.1 h84).many).mono ?_;rintro e w2 ⟨⟨r2,rfl,O9⟩,yD⟩;by_cases Yi:r2=0;obtain⟨q0,q1,q2,q3,q4⟩:=oV.of (vd.kJ yD)))
 .go_ret;exact br.mk (r:=1) (bad (by decide) λh=>hr.f h.ak) ((Below.refl _ _).alloc (zAB _) _)
 .go_ret;exact br.mk (r:=1) (bad (by decide) λh=>hr.f h.ah) ((Below.refl _ _).alloc (zAB _) _)
 .rename_i hm4;go_ret;exact br.mk (r:=2) (bad (by decide) λh=>by have:=h.many;omega) (Below.boxed (vd.kJ yD))
 .have HV:Hid ((1<=b.ak/\b.ak<=99)/\(1<=b.ah/\b.ah<=4)/\tS b/\fQ b/\b.aX.length<=4):=by
   exact⟨Tr.t (by assumption),hr.t,WG.1 h84,O9.1 Yi,by omega⟩
  have Pb:Hid (Below (w.heap.size+1) (w.alloc (.cells #[.int .i64 b.ak,.int .i64 b.ah,.slice a2 b.ptz.length c2,.slice a3 b.aL.length c3,.slice a4 b.aX.length c4] 26)) w2):=vd.kJ yD;clear hr WG O9 vd yD h84 Yi q0 q1 q2 q3 q4 g0 g1 g2 g3 g4;go_loopw [5] (λi w1=>∃k:Nat,k<=b.aX.length/\Hid (gN b k)/\i=.int .i64 k/\Hid (Below (w.heap.size+1) (w.alloc (.cells #[.int .i64 b.ak,.int .i64 b.ah,.slice a2 b.ptz.length c2,.slice a3 b.aL.length c3,.slice a4 b.aX.length c4] 26)) w1)) (λi _=>b.aX.length-(intOf i).toNat)
  case atStart=>exact⟨0,zAM _,.zero _,rfl,Pb⟩
  case round=>
   obtain⟨k,hk,hN,rfl,hB⟩:=hrel;have gg:=oV.of hB.o;by_cases av:k<b.aX.length
   .obtain⟨⟨blk,off,sp⟩,t,rfl,hx,⟨vf,x0,hf⟩,x1,x2⟩:=H4.o.1.elem H4.o.2 av;obtain rfl:sp=none:=x0.1;have Hi:=hf;obtain⟨af,cf,⟨rfl,_,_,_,_⟩,_⟩:=hf;have HX:=hid hx;obtain⟨s0,s1,s2,s3,s4⟩:=gg;have G0:=λX:am wr=>X.cell s0;have G1:=λX:am wr=>X.cell s1;have G2:=λX:am wr=>X.cell s2;have G3:=λX:am wr=>X.cell s3;have G4:=λX:am wr=>X.cell s4;have Y0:=λX:am wr=>X.cell (x0.later (Kp.boxed hB.o)).2;have Y1:=λX:am wr=>X.cell (x1.later (Kp.boxed hB.o)).2;have Y2:=λX:am wr=>X.cell (x2.later (Kp.boxed hB.o)).2;simp only[<-zBD]at Y0 Y1 Y2;have f7:(k:Int)<(b.aX.length:Int):=by omega
    have hz:Hid (w.heap.size+1<=wr.heap.size):=by have:=hB.o.size;simp at this;exact(by omega:w.heap.size+1<=wr.heap.size)
    have TV:∀X:am wr,Calls ZP 107 #[.agg #[.int .i64 b.ak,.int .i64 b.ah,.slice a2 b.ptz.length c2,.slice a3 b.aL.length c3,.slice (some ⟨blk,off,none⟩) b.aX.length c4],.slice af t.ptz.length cf] X.1 (λe jy=>e=.returned (.int .i64 (aK b t.ptz))/\∃Y:am wr,jy=Y.1):=λX=>
     (rF _ _ _ _ _ ((HB.o.later (Kp.boxed hB.o)).later X.kp) ((Hi.later (Kp.boxed hB.o)).later X.kp) HV.o.2.2.1.many).mono λe w' ⟨⟨r,h1,h2⟩,h3⟩=>⟨by rw[h1,h2],X.on h3⟩
    clear Hi x0 x1 x2 hx;by_cases Pc:aK b t.ptz=0
    .have HM:Hid (cO b t.ptz):=bV.1 Pc;go_wp2
     refine ap (by kernel_rfl) (by kernel_rfl) ?_;repeat(go_big_quiet_step (first|(go_at_call 107;exact TV _)))
     refine wpQuiet_nil ?_;rintro _ ⟨X,rfl⟩;go_wp2_with(go_at_call 102;refine(ve _ _ _ _ _).mono ?_;rintro e w' ⟨r,rfl,hr,rfl⟩;cases r)
     .go_ret;exact br.mk (r:=1) (bad (by decide) λh=>hr.f (h.aX k _ av HX.o).WE) (Below.alloc ((Below.boxed hB.o).trans (X.2.mono (zAP (zDH _) hz.o))) (zAP (zAP (zDH _) hz.o) X.2.size) _)
     .have HT:Hid (qw b t):=⟨HM.o,hr.t⟩
      clear hr;go_round
      case rel=>exact⟨k+1,by omega,hN.o.succ HX.o HT.o,by go_num,Below.alloc (hB.o.trans (X.2.mono hz.o)) (zAP hz.o X.2.size) _⟩
      case measure=>simp[intOf];omega
    .have HM:Hid (¬cO b t.ptz):=λh=>Pc (bV.2 h);go_wp2
     refine ap (by kernel_rfl) (by kernel_rfl) ?_;repeat(go_big_quiet_step (first|(go_at_call 107;exact TV _)))
     refine wpQuiet_nil ?_;rintro _ ⟨X,rfl⟩;go_wp2
     go_ret;exact br.mk (bad Pc λh=>HM.o (h.aX k _ av HX.o).Nr) ((Below.boxed hB.o).trans (X.2.mono (zAP (zDH _) hz.o)))
   .have HN:Hid (gN b b.aX.length):=(by have e:k=b.aX.length:=(by omega);subst e;exact hN.o)
    obtain⟨s0,s1,s2,s3,s4⟩:=gg;go_wp2
    go_ret;exact br.mk (r:=0) ⟨λ_=>⟨HV.o.1,HV.o.2.1,HV.o.2.2.1,HV.o.2.2.2.1,HV.o.2.2.2.2,HN.o⟩,λ_=>rfl⟩ (Below.boxed hB.o)
 .go_ret;exact br.mk (bad Yi λh=>Yi (O9.2 h.gJ)) (Below.boxed (vd.kJ yD))
 .go_ret;exact br.mk (bad h84 λh=>h84 (WG.2 h.ptz)) (Below.boxed vd.iy)
end Go.Proofs.Cz
namespace Go.Proofs.Cz
open Go.RowKit
variable {b:ab} {t:eH}
open Classical in
def dQ (n:Int) (l:List (Int×Int)) (k:Nat):Int:=match l[k]? with
 |none=>0
 |some x=>if(0<=x.1/\x.1<=n-1)/\0<=x.2/\x.2<=n-1 then(if x.1<=x.2 then(if∃i,i<k/\l[i]?=some x then 5 else 0)else 7)else 6
def cI (n:Int) (l:List (Int×Int)):Int:=if l.length<=5 then scan (dQ n l) l.length else 2
section
variable {n:Int} {l:List (Int × Int)} {k:Nat} {x:Int × Int}
def Ns (hx:l[k]?=some x) (h:¬((0<=x.1/\x.1<=n-1)/\0<=x.2/\x.2<=n-1)):dQ n l k=6:=by unfold dQ;rw[hx];simp only;rw[zAG h]
def WH (hx:l[k]?=some x) (h:(0<=x.1/\x.1<=n-1)/\0<=x.2/\x.2<=n-1) (h2:¬x.1<=x.2):dQ n l k=7:=by unfold dQ;rw[hx];simp only;rw[zAF h,zAG h2]
def WI (hx:l[k]?=some x) (h:rE n x) {i:Nat} (hi:i<k) (hy:l[i]?=some x):dQ n l k=5:=by unfold dQ;rw[hx];simp only;rw[zAF ⟨h.one,h.two⟩,zAF h.le,zAF ⟨i,hi,hy⟩]
def Nt (hx:l[k]?=some x) (h:rE n x) (h2:ii l x k):dQ n l k=0:=by unfold dQ;rw[hx];simp only;rw[zAF ⟨h.one,h.two⟩,zAF h.le,zAG (λ⟨i,hi,hy⟩=>h2 i x hi hy rfl)]
def F7 (hm:l.length<=5):cI n l=scan (dQ n l) l.length:=by unfold cI;rw[zAF hm]
def oX:cI b.ptz.length b.aL=0↔fQ b:=by
 unfold cI;constructor
 .intro h;split at h
  .rename_i hm;refine⟨hm,λj x hj hx=>?_⟩;have h1:=fC.1 h j hj;unfold dQ at h1;rw[hx]at h1;simp only at h1;split at h1
   .rename_i h2;split at h1
    .rename_i h3;split at h1
     .cases h1
     .rename_i h4;exact⟨⟨h2.1,h2.2,h3⟩,λi y hi hy e=>h4 ⟨i,hi,by rw[<-e];exact hy⟩⟩
    .cases h1
   .cases h1
  .cases h
 .intro h;rw[zAF h.many,fC];intro j hj;have hx:b.aL[j]?=some b.aL[j]:=zAJ hj;have h1:=h.all j _ hj hx;exact Nt hx h1.1 h1.2
end
def lC:bU b.ah b.ptz=0↔tS b:=by
 unfold bU;constructor
 .intro h;split at h
  .rename_i hm;refine⟨hm,λj x hj hx=>?_⟩;have h1:=fC.1 h j hj;unfold de at h1;rw[hx]at h1;simp only at h1;split at h1
   .rename_i h2;split at h1
    .cases h1
    .rename_i h3;split at h1
     .rename_i h4;exact⟨⟨h2,h4.1,h4.2.1,h4.2.2.1,h4.2.2.2,sD.1 h1⟩,λi y hi hy e=>h3 ⟨i,y,hi,hy,e⟩⟩
     .cases h1
   .cases h1
  .cases h
 .intro h;rw[zAF h.many,fC];intro j hj;have hx:b.ptz[j]?=some b.ptz[j]:=zAJ hj;have h1:=h.all j _ hj hx;rw[Nq hx h1.1.name h1.2 ⟨h1.1.cost,h1.1.dm,h1.1.time,h1.1.wide⟩];exact sD.2 h1.1.zaP
def dR (b:ab) (k:Nat):Int:=match b.aX[k]? with
 |none=>0
 |some t=>if aK b t.ptz=0 then(if 0<=t.lo/\t.lo<=t.hi/\t.hi<=99 then 0 else 1)else aK b t.ptz
def dI (b:ab):Int:=if b.aX.length<=4 then scan (dR b) b.aX.length else 2
def It {k:Nat} (hx:b.aX[k]?=some t) (h:qw b t):dR b k=0:=by unfold dR;rw[hx];simp only;rw[zAF (bV.2 h.Nr),zAF h.WE]
def Q9 {k:Nat} (hx:b.aX[k]?=some t) (h:cO b t.ptz) (h2:¬(0<=t.lo/\t.lo<=t.hi/\t.hi<=99)):dR b k=1:=by unfold dR;rw[hx];simp only;rw[zAF (bV.2 h),zAG h2]
def Re {k:Nat} (hx:b.aX[k]?=some t) (h:aK b t.ptz≠0):dR b k=aK b t.ptz:=by unfold dR;rw[hx];simp only;rw[zAG h]
def Dc (hm:b.aX.length<=4):dI b=scan (dR b) b.aX.length:=by unfold dI;rw[zAF hm]
def sG:dI b=0↔b.aX.length<=4/\gN b b.aX.length:=by
 unfold dI;constructor
 .intro h;split at h
  .rename_i hm;refine⟨hm,λj t hj ht=>?_⟩;have h1:=fC.1 h j hj;unfold dR at h1;rw[ht]at h1;simp only at h1;split at h1
   .rename_i h2;split at h1
    .rename_i h3;exact⟨bV.1 h2,h3⟩
    .cases h1
   .rename_i h2;exact absurd h1 h2
  .cases h
 .rintro⟨hm,h⟩;rw[zAF hm,fC];intro j hj;have hx:b.aX[j]?=some b.aX[j]:=zAJ hj;exact It hx (h j _ hj hx)
def aU (b:ab):Int:=
 if(1<=b.ak/\b.ak<=99)/\1<=b.ah/\b.ah<=4 then
  (if bU b.ah b.ptz=0 then(if cI b.ptz.length b.aL=0 then dI b else cI b.ptz.length b.aL)else bU b.ah b.ptz)
 else 1
def bd:aU b=0↔Valid b:=by
 unfold aU;constructor
 .intro h;split at h
  .rename_i h1;split at h
   .rename_i h2;split at h
    .rename_i h3;have h4:=sG.1 h;exact⟨h1.1,h1.2,lC.1 h2,oX.1 h3,h4.1,h4.2⟩
    .rename_i h3;exact absurd h h3
   .rename_i h2;exact absurd h h2
  .cases h
 .intro h;rw[zAF ⟨h.ak,h.ah⟩,zAF (lC.2 h.ptz),zAF (oX.2 h.gJ),sG];exact⟨h.many,h.aX⟩
def Rf (w:nq) (v:fu) (b:ab) (hb:ar w v b):
 Calls ZP 8 #[v] w (dq w λr=>r=true->d9 b/\Valid b):=by
 have HB:=hid hb;obtain⟨v2,v3,v4,rfl,⟨a2,c2,⟨rfl,_,_,_,_⟩,_⟩,⟨a3,c3,⟨rfl,_,_,_,_⟩,_⟩,⟨a4,c4,⟨rfl,_,_,_,_⟩,_⟩⟩:=hb;go_enter ZF8,Tryz.ntmps8
 have cV:=HB.o.later (Kp.alloc w (.cells #[.int .i64 b.ak,.int .i64 b.ah,.slice a2 b.ptz.length c2,.slice a3 b.aL.length c3,.slice a4 b.aX.length c4] 26))
 go_wp2_with(first
  |(go_at_call 15;refine(J9 _ _ _ cV).mono ?_;rintro e w1 ⟨⟨r,rfl,WG⟩,vd⟩;cases r;have HS:Hid (d9 b):=WG rfl;clear WG;obtain⟨g0,g1,g2,g3,g4⟩:=oV.of vd.iy)
  |(go_at_call 43;refine(Ap _ _ _ (HB.o.later (Kp.boxed vd.iy)) HS.o).mono ?_;rintro e w2 ⟨⟨r2,rfl,O9⟩,yD⟩;by_cases Yi:r2=0))
 .have HV:Hid (Valid b):=O9.1 Yi;go_ret;exact dq.mk (λ_=>⟨HS.o,HV.o⟩) (Below.boxed (vd.kJ yD))
 .go_ret;exact dq.mk (λh=>by simp_all) (Below.boxed (vd.kJ yD))
 .go_ret;exact dq.mk (λh=>by cases h) (Below.boxed vd.iy)
end Go.Proofs.Cz
end
