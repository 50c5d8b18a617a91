/- A part. Conditions: none. -/
import Derived.Test.YtehbindidbgacaaGreatDoorT22
import Derived.WalkSpells
import Derived.WalkLawsBesides
import Derived.Deep.QuietTactic
import Derived.BigQuiet
import Derived.Deep.LoopGhost
set_option linter.all false
set_option maxHeartbeats 8000000
namespace Go.Proofs.Cz
open Go.RowKit
variable {A:Prop} {B:Nat} {a w w1:World} {b s:ByteArray} {n y:Int} {o:Obj} {v:Value}
def cI (w:World) (P:Bool->Prop) (e:Ending) (w':World):Prop:=(∃r,e=.returned (.bool r)/\P r)/\Below w.heap.size w w'
theorem cI.mk {w w':World} {P:Bool->Prop} {r:Bool} (h:P r) (hb:Below w.heap.size w w'):cI w P (.returned (.bool r)) w':=⟨⟨r,rfl,h⟩,hb⟩
theorem Kp.alloc (w:World) (o:Obj):Kp w (w.alloc o):=λk hk=>Below.heap_alloc w o k hk
theorem bA.elem {α:Type} {l:List α} {a:Option Addr} {cap:Nat} (h:bA w v l.length a cap) {p:Addr->Nat->α->Prop} (hp:∀b,a=some b->∀j x,l[j]?=some x->p b j x) {k:Nat} (hk:k<l.length):
 ∃b x,a=some b/\l[k]?=some x/\p b k x:=by
 cases a with
 |none=>have:=h.nil rfl;have:=h.le;omega
 |some b=>exact⟨b,l[k],rfl,zAJ hk,hp b rfl k _ (zAJ hk)⟩
def oN (l:List Part) (k:Nat):Prop:=∀j x,j<k->l[j]?=some x->x.name.size<=100
theorem oN.succ {l:List Part} {x:Part} {k:Nat} (h:oN l k) (hx:l[k]?=some x) (h1:x.name.size<=100):oN l (k+1):=λj y hj hy=>by
 by_cases e:j=k
 .subst e;rw[hx]at hy;cases hy;exact h1
 .exact h j y (by omega) hy
abbrev fS (b:ap):Prop:=oN b.parts b.parts.length
theorem GI (w:World) (v:Value) (b:ap) (hb:ar w v b):
 Calls ZP 33 #[v] w (cI w λr=>r=false->fS b):=by
 obtain⟨v2,v3,v4,rfl,⟨a2,c2,h2,f2⟩,⟨a3,c3,h3,f3⟩,⟨a4,c4,h4,f4⟩⟩:=hb;have H2:Hid (bA w v2 b.parts.length a2 c2/\_):=⟨h2,f2⟩
 have H4:Hid (bA w v4 b.aa.length a4 c4/\_):=⟨h4,f4⟩
 obtain⟨rfl,l2,m2,n2,r2⟩:=h2;obtain⟨rfl,l3,m3,n3,r3⟩:=h3;obtain⟨rfl,l4,m4,n4,r4⟩:=h4;unfold maxLen at m2 m3 m4;clear r2 r3 r4 f2 f3 f4 n2 n3 n4;go_enter ZF33,Tryz.ntmps33
 go_wp2
 all_goals try(go_ret;refine cI.mk (λh=>by cases h) ((Below.refl _ _).alloc (zAC _) _))
 go_loop [3] (λi=>∃k:Nat,k<=b.parts.length/\Hid (oN b.parts k)/\i=.int .i64 k) (λi=>b.parts.length-(intOf i).toNat)
 case atStart=>exact⟨0,zAR _,(λj x h=>by omega),rfl⟩
 case round=>
  obtain⟨k,hk,hN,rfl⟩:=hrel;by_cases az:k<b.parts.length
  .obtain⟨⟨blk,off,sp⟩,x,rfl,hx,x0,x1,x2,x3,x4,vf,x5,af,cf,hf,_⟩:=H2.o.1.elem H2.o.2 az;obtain rfl:sp=none:=x0.1;obtain⟨rfl,lf,mf,_,_⟩:=hf;have y0:=(x0.later (Kp.alloc w (.cells #[.int .i64 b.ac,.int .i64 b.places,.slice (some ⟨blk,off,none⟩) b.parts.length c2,.slice a3 b.apart.length c3,.slice a4 b.aa.length c4] 26))).2;have y5:=(x5.later (Kp.alloc w (.cells #[.int .i64 b.ac,.int .i64 b.places,.slice (some ⟨blk,off,none⟩) b.parts.length c2,.slice a3 b.apart.length c3,.slice a4 b.aa.length c4] 26))).2;simp only[<-zBE]at y0 y5;clear x0 x1 x2 x3 x4 x5;have HX:=hid hx;go_wp2
   all_goals try(go_ret;refine cI.mk (λh=>by cases h) ((Below.refl _ _).alloc (zAC _) _))
   go_round
   case rel=>exact⟨k+1,by omega,hN.o.succ HX.o (by omega),by go_num⟩
   case measure=>simp[intOf];omega
  .have hN:Hid (fS b):=by have e:k=b.parts.length:=by omega
                          subst e;exact hN.o
   go_wp2
   go_loop [4] (λi=>∃k:Nat,k<=b.aa.length/\i=.int .i64 k) (λi=>b.aa.length-(intOf i).toNat)
   case atStart=>exact⟨0,zAR _,rfl⟩
   case round=>
    obtain⟨k,hk,rfl⟩:=hrel;by_cases az:k<b.aa.length
    .obtain⟨⟨blk,off,sp⟩,x,rfl,hx,⟨vf,x0,af,cf,hf,_⟩,_⟩:=H4.o.1.elem H4.o.2 az;obtain rfl:sp=none:=x0.1;obtain⟨rfl,lf,mf,_,_⟩:=hf;have y0:=(x0.later (Kp.alloc w (.cells #[.int .i64 b.ac,.int .i64 b.places,.slice a2 b.parts.length c2,.slice a3 b.apart.length c3,.slice (some ⟨blk,off,none⟩) b.aa.length c4] 26))).2;simp only at y0;clear x0;go_wp2
     all_goals try(go_ret;refine cI.mk (λh=>by cases h) ((Below.refl _ _).alloc (zAC _) _))
     go_round
     case rel=>exact⟨k+1,by omega,by go_num⟩
     case measure=>simp[intOf];omega
    .go_wp2
     all_goals(go_ret;exact cI.mk (λ_=>hN.o) ((Below.refl _ _).alloc (zAC _) _))
def kQ (w:World) (v:Value) (e:Ending) (w':World):Prop:=e=.returned v/\w'=w
theorem kQ.of (v':Value) (h:v'=v):kQ w v (.returned v') w:=⟨by rw[h],rfl⟩
theorem cI.eq {w':World} {P:Bool->Prop} {r:Bool} (h:P r) (hb:Below w.heap.size w w') (e:v=.bool r):cI w P (.returned v) w':=by subst e;exact .mk h hb
def Tr (r:Bool) (A:Prop):Prop:=r=true↔A
theorem Tr.t (h:Tr true A):A:=h.1 rfl
theorem Tr.f (h:Tr false A):¬A:=λa=>Bool.noConfusion (h.2 a)
theorem Tr.yes (h:A):Tr true A:=⟨λ_=>h,λ_=>rfl⟩
theorem Tr.no (h:¬A):Tr false A:=⟨λh=>Bool.noConfusion h,λa=>absurd a h⟩
def dg (w:World) (P:Bool->Prop) (e:Ending) (w':World):Prop:=∃r,e=.returned (.bool r)/\P r/\w'=w
def P5 (w:World) (o:Obj) (P:Bool->Prop) (e:Ending) (w':World):Prop:=∃r,e=.returned (.bool r)/\P r/\w'=w.alloc o
def Xr (w:World) (P:Int->Prop) (e:Ending) (w':World):Prop:=∃r n,e=.returned (.int .i64 r)/\P r/\w'=w.drewN n
theorem dg.mk {w:World} {P:Bool->Prop} {r:Bool} (h:P r):dg w P (.returned (.bool r)) w:=⟨r,rfl,h,rfl⟩
theorem cD (n a b:Int) (w:World):Calls ZP 92 #[.int .i64 n,.int .i64 a,.int .i64 b] w (kQ w (.bool (decide (a<=n)&&decide (n<=b)))):=by
 by_cases h1:a<=n<;>by_cases h2:n<=b
 all_goals
  go_enter ZF92,Tryz.ntmps92
  go_wp2
  go_ret;exact⟨by simp[h1,h2],rfl⟩
theorem pP (n a b:Int) (w:World):Calls ZP 20 #[.int .i64 n,.int .i64 a,.int .i64 b] w (kQ w (.bool (decide (a<=n)&&decide (n<=b)))):=by
 by_cases h1:a<=n<;>by_cases h2:n<=b
 all_goals
  go_enter ZF20,Tryz.ntmps20
  go_wp2
  go_ret;exact⟨by simp[h1,h2],rfl⟩
theorem Df (c:Int) (w:World):Calls ZP 123 #[.int .u8 c] w (kQ w (.bool (decide (97<=c)&&decide (c<=122)))):=by
 by_cases h1:97<=c<;>by_cases h2:c<=122
 all_goals
  go_enter ZF123,Tryz.ntmps123
  go_wp2
  go_ret;exact⟨by simp[h1,h2],rfl⟩
theorem GJ (c:Int) (w:World):Calls ZP 124 #[.int .u8 c] w (kQ w (.bool (decide (48<=c)&&decide (c<=57)))):=by
 by_cases h1:48<=c<;>by_cases h2:c<=57
 all_goals
  go_enter ZF124,Tryz.ntmps124
  go_wp2
  go_ret;exact⟨by simp[h1,h2],rfl⟩
theorem ta (lo hi a b:Int) (w:World):Calls ZP 81 #[.agg #[.int .i64 lo,.int .i64 hi],.int .i64 a,.int .i64 b] w (P5 w (.cells #[.int .i64 lo,.int .i64 hi] 43) λr=>Tr r (a<=lo/\lo<=hi/\hi<=b)):=by
 by_cases h1:a<=lo<;>by_cases h2:lo<=hi<;>by_cases h3:hi<=b
 all_goals
  go_enter ZF81,Tryz.ntmps81
  go_wp2
  go_ret;exact⟨_,rfl,by unfold Tr;simp[h1,h2,h3],rfl⟩
theorem kv (lo hi a b m:Int) (hb:0<=a/\b<=1000) (w:World):Calls ZP 77 #[.agg #[.int .i64 lo,.int .i64 hi],.int .i64 a,.int .i64 b,.int .i64 m] w (P5 w (.cells #[.int .i64 lo,.int .i64 hi] 43) λr=>Tr r (a<=lo/\lo<=hi/\hi<=b/\hi-lo<m)):=by
 by_cases h1:a<=lo<;>by_cases h2:lo<=hi<;>by_cases h3:hi<=b
 all_goals
  go_enter ZF77,Tryz.ntmps77
  go_wp2
  go_ret;refine⟨_,rfl,?_,rfl⟩;unfold Tr
  first
   |(have e:wrap64 (hi-lo)=hi-lo:=by unfold wrap64;omega
     simp[h1,h2,h3,e])
   |(simp[h1,h2,h3];done)
   |(simp[h1,h2,h3];omega)
def aY (w:World) (P:Int->Prop) (e:Ending) (w':World):Prop:=(∃r,e=.returned (.int .i64 r)/\P r)/\Below w.heap.size w w'
theorem aY.mk {w w':World} {P:Int->Prop} {r:Int} (h:P r) (hb:Below w.heap.size w w'):aY w P (.returned (.int .i64 r)) w':=⟨⟨r,rfl,h⟩,hb⟩
def iT (l:List Int) (x:Int) (k:Nat):Prop:=∀j y,j<k->l[j]?=some y->y≠x
theorem iT.zero (l:List Int) (x:Int):iT l x 0:=λj y h=>by omega
theorem iT.succ {l:List Int} {x:Int} {k:Nat} (h:iT l x k) (hy:l[k]?=some y) (bE:y≠x):iT l x (k+1):=λj z hj hz=>by
 by_cases e:j=k
 .subst e;rw[hy]at hz;cases hz;exact bE
 .exact h j z (by omega) hz
theorem iT.all {l:List Int} {x:Int} (h:iT l x l.length):x∉l:=λhm=>by
 obtain⟨j,hj,rfl⟩:=zCI hm;exact h j _ hj (zAJ hj) rfl
theorem xN (w:World) (v:Value) (l:List Int) (x:Int) (h:am w v l):Calls ZP 17 #[v,.int .i64 x] w (kQ w (.bool (decide (x∈l)))):=by
 obtain⟨a,c,h1,h2⟩:=h;have H:Hid (bA w v l.length a c/\_):=⟨h1,h2⟩
 obtain⟨rfl,l1,m1,n1,r1⟩:=h1;unfold maxLen at m1;clear h2 n1 r1;go_enter ZF17,Tryz.ntmps17
 go_wp2
 go_loop [5] (λi=>∃k:Nat,k<=l.length/\Hid (iT l x k)/\i=.int .i64 k) (λi=>l.length-(intOf i).toNat)
 case atStart=>exact⟨0,zAR _,iT.zero l x,rfl⟩
 case round=>
  obtain⟨k,hk,hN,rfl⟩:=hrel;by_cases az:k<l.length
  .obtain⟨⟨blk,off,sp⟩,y,rfl,hy,y0⟩:=H.o.1.elem H.o.2 az;obtain rfl:sp=none:=y0.1;have g0:=y0.2;simp only at g0;have HY:=hid hy;clear y0 hy;by_cases e:y=x
   .go_wp2
    go_ret;exact kQ.of (.bool true) (by rw[zDD (e▸zAX HY.o)])
   .go_wp2
    go_round
    case rel=>exact⟨k+1,by omega,hN.o.succ HY.o e,by go_num⟩
    case measure=>simp[intOf];omega
  .have e:k=l.length:=by omega
   subst e;go_wp2
   go_ret;exact kQ.of (.bool false) (by rw[zDR hN.o.all])
def hU (l:List Int) (n:Int) (k:Nat):Prop:=∀j y,j<k->l[j]?=some y->0<=y/\y<=n-1/\∀z,0<j->l[j-1]?=some z->z<y
theorem hU.zero (l:List Int) (n:Int):hU l n 0:=λj y h=>by omega
theorem hU.succ {l:List Int} {k:Nat} (h:hU l n k) (hy:l[k]?=some y) (h1:0<=y/\y<=n-1) (h2:∀z,0<k->l[k-1]?=some z->z<y):hU l n (k+1):=λj z hj hz=>by
 by_cases e:j=k
 .subst e;rw[hy]at hz;cases hz;exact⟨h1.1,h1.2,h2⟩
 .exact h j z (by omega) hz
abbrev xO (l:List Int) (n:Int):Prop:=hU l n l.length
theorem Below.drewN (h:Below B a w) (n:Nat):Below B a (w.drewN n):=⟨h.os,h.tape,h.output,h.size,h.block⟩
theorem Dg (w:World) (v:Value) (l:List Int) (n:Int) (hn:0<=n/\n<=1000) (h:am w v l):Calls ZP 104 #[v,.int .i64 n] w (Xr w λs=>s=0↔xO l n):=by
 obtain⟨a,c,h1,h2⟩:=h;have H:Hid (bA w v l.length a c/\_):=⟨h1,h2⟩
 obtain⟨rfl,l1,m1,n1,r1⟩:=h1;unfold maxLen at m1;clear h2 n1 r1;go_enter ZF104,Tryz.ntmps104
 go_wp2
 go_loopw [5] (λi w1=>∃k:Nat,k<=l.length/\Hid (hU l n k)/\i=.int .i64 k/\∃n,w1=w.drewN n) (λi _=>l.length-(intOf i).toNat)
 case atStart=>exact⟨0,zAR _,hU.zero l n,rfl,0,rfl⟩
 case round=>
  obtain⟨k,hk,hN,rfl,n0,rfl⟩:=hrel;by_cases az:k<l.length
  .obtain⟨⟨blk,off,sp⟩,y,rfl,hy,y0⟩:=H.o.1.elem H.o.2 az;obtain rfl:sp=none:=y0.1;have g0:=y0.2;simp only at g0;have HY:=hid hy;have hw:wrap64 (n-1)=n-1:=by unfold wrap64;omega
   clear y0 hy;by_cases e1:0<=y/\y<=n-1
   .obtain⟨e1,e2⟩:=e1;by_cases qT:0<k
    .obtain⟨b',z,yX,hz,z0⟩:=H.o.1.elem H.o.2 (show k-1<l.length by omega);cases yX;have g1:=z0.2;simp only at g1;go_wp2_with(go_at_call 20;refine(pP _ _ _ _).mono ?_;rintro e w' ⟨rfl,rfl⟩)
     have pg:wrap64 ((k:Int)-1)=((k-1:Nat):Int):=by unfold wrap64;omega
     have j0:(0:Int)<(k:Int):=by omega
     have iR:((k-1:Nat):Int)<(l.length:Int):=by omega
     have lN:(k:Int)<(l.length:Int):=by omega
     by_cases hzy:y<=z
     .go_quiet (fail)
      go_wp2
      go_ret;refine⟨7,_,rfl,⟨(λh=>by cases h),λh=>?_⟩,by simp only[World.drewN_drewN];rfl⟩;have:=(h k y az HY.o).2.2 z qT hz;omega
     .go_quiet (fail)
      go_wp2
      go_round
      case rel=>exact⟨k+1,by omega,hN.o.succ HY.o ⟨e1,e2⟩ (λz' _ h=>by rw[hz]at h;cases h;omega),by go_num,_,rfl⟩
      case measure=>simp[intOf];omega
    .have j0:¬(0:Int)<(k:Int):=by omega
     have lN:(k:Int)<(l.length:Int):=by omega
     go_wp2_with(go_at_call 20;refine(pP _ _ _ _).mono ?_;rintro e w' ⟨rfl,rfl⟩)
     go_quiet (fail)
     go_wp2
     go_round
     case rel=>exact⟨k+1,by omega,hN.o.succ HY.o ⟨e1,e2⟩ (λz' h _=>by omega),by go_num,_,rfl⟩
     case measure=>simp[intOf];omega
   .have e2:(decide (0<=y)&&decide (y<=n-1))=false:=by
     cases hd:(decide (0<=y)&&decide (y<=n-1))with
     |false=>rfl
     |true=>exact absurd (by simpa using hd) e1
    have E1:=hid e1;clear e1;go_wp2_with(go_at_call 20;refine(pP _ _ _ _).mono ?_;rintro e w' ⟨rfl,rfl⟩)
    go_ret;refine⟨6,_,rfl,⟨(λh=>by cases h),λh=>?_⟩,rfl⟩;have:=h k y az HY.o;exact absurd ⟨this.1,this.2.1⟩ E1.o
  .have e:k=l.length:=by omega
   subst e;go_wp2
   go_ret;exact⟨0,_,rfl,⟨λ_=>hN.o,λ_=>rfl⟩,rfl⟩
def tc (c:Int):Prop:=97<=c/\c<=122
def Ar (c:Int):Prop:=48<=c/\c<=57
def nB (s:ByteArray) (k:Nat):Prop:=∀j (hj:j<s.size),j<k->tc (s[j].toNat)\/0<j/\Ar (s[j].toNat)
def jC (s:ByteArray):Prop:=1<=s.size/\s.size<=10/\nB s s.size
theorem nB.succ {k:Nat} (h:nB s k) (hk:k<s.size) (h1:tc (s[k].toNat)\/0<k/\Ar (s[k].toNat)):nB s (k+1):=λj hj ou=>by
 by_cases e:j=k
 .subst e;exact h1
 .exact h j hj (by omega)
theorem As (w:World) (c:Int):Calls ZP 123 #[.int .u8 c] w (dg w λr=>Tr r (tc c)):=(Df c w).mono λ_ _ h=>⟨_,h.1,(by unfold Tr;simp[tc]),h.2⟩
theorem NZ (w:World) (c:Int):Calls ZP 124 #[.int .u8 c] w (dg w λr=>Tr r (Ar c)):=(GJ c w).mono λ_ _ h=>⟨_,h.1,(by unfold Tr;simp[Ar]),h.2⟩
theorem N0 (w:World) (n a b:Int):Calls ZP 20 #[.int .i64 n,.int .i64 a,.int .i64 b] w (dg w λr=>Tr r (a<=n/\n<=b)):=(pP n a b w).mono λ_ _ h=>⟨_,h.1,(by unfold Tr;simp),h.2⟩
theorem iU (w:World) (n a b:Int):Calls ZP 92 #[.int .i64 n,.int .i64 a,.int .i64 b] w (dg w λr=>Tr r (a<=n/\n<=b)):=(cD n a b w).mono λ_ _ h=>⟨_,h.1,(by unfold Tr;simp),h.2⟩
theorem Dh (w:World) (s:ByteArray) (hs:s.size<=maxLen):Calls ZP 103 #[.string s] w (dg w λr=>Tr r (jC s)):=by
 unfold maxLen at hs;go_enter ZF103,Tryz.ntmps103
 by_cases h1:(s.size:Int)<1
 .go_wp2
  go_ret;exact dg.mk (.no λh=>by have:=h.1;omega)
 by_cases h2:(s.size:Int)>10
 .go_wp2
  go_ret;exact dg.mk (.no λh=>by have:=h.2.1;omega)
 go_wp2
 go_loop [3] (λi=>∃k:Nat,k<=s.size/\Hid (nB s k)/\i=.int .i64 k) (λi=>s.size-(intOf i).toNat)
 case atStart=>exact⟨0,zAR _,(λj _ h=>by omega),rfl⟩
 case round=>
  obtain⟨k,hk,hN,rfl⟩:=hrel;by_cases az:k<s.size
  .have HL:Hid (k<s.size):=az;by_cases qT:(k:Int)=0
   .have pg:k=0:=by omega
    go_wp2_with(go_at_call 123;refine(As _ _).mono ?_;rintro e w' ⟨r,rfl,hr,rfl⟩;cases r)
    .go_ret;refine dg.mk (.no λh=>?_);rcases h.2.2 0 (by omega) (by omega)with h|h
     .exact hr.f h
     .omega
    .go_round
     case rel=>subst pg;exact⟨0+1,by omega,hN.o.succ HL.o (.inl hr.t),by go_num⟩
     case measure=>simp[intOf];omega
   .go_wp2_with(first|(go_at_call 123;refine(As _ _).mono ?_;rintro e w' ⟨r,rfl,hr,rfl⟩;cases r)|(go_at_call 124;refine(NZ _ _).mono ?_;rintro e w' ⟨r,rfl,rf,rfl⟩;cases r))
    .go_ret;refine dg.mk (.no λh=>?_);rcases h.2.2 k (by omega) (by omega)with h|h
     .exact hr.f h
     .exact rf.f h.2
    .go_round
     case rel=>exact⟨k+1,by omega,hN.o.succ HL.o (.inr ⟨by omega,rf.t⟩),by go_num⟩
     case measure=>simp[intOf];omega
    .go_round
     case rel=>exact⟨k+1,by omega,hN.o.succ HL.o (.inl hr.t),by go_num⟩
     case measure=>simp[intOf];omega
  .obtain rfl:k=s.size:=by omega
   go_wp2
   go_ret;refine dg.mk (.yes ⟨by omega,by omega,hN.o⟩)
structure Di (places:Int) (x:Part):Prop where
 name:jC x.name
 cost:0<=x.cost/\x.cost<=99
 bY:0<=x.bY/\x.bY<=3
 time:0<=x.lo/\x.lo<=x.hi/\x.hi<=20
 wide:x.hi-x.lo<4
 N3:xO x.fits places
def kz (places:Int) (l:List Part) (k:Nat):Prop:=∀j x,j<k->l[j]?=some x->Di places x/\∀i y,i<j->l[i]?=some y->y.name≠x.name
theorem kz.zero (p:Int) (l:List Part):kz p l 0:=λj x h=>by omega
theorem kz.succ {p:Int} {l:List Part} {x:Part} {k:Nat} (h:kz p l k) (hx:l[k]?=some x) (h1:Di p x) (h2:∀i y,i<k->l[i]?=some y->y.name≠x.name):kz p l (k+1):=λj y hj hy=>by
 by_cases e:j=k
 .subst e;rw[hx]at hy;cases hy;exact⟨h1,h2⟩
 .exact h j y (by omega) hy
structure rL (b:ap):Prop where
 many:1<=b.parts.length/\b.parts.length<=5
 all:kz b.places b.parts b.parts.length
def gG (l:List Part) (s:ByteArray) (k:Nat):Prop:=∀j y,j<k->l[j]?=some y->y.name≠s
theorem gG.zero (l:List Part) (s:ByteArray):gG l s 0:=λj y h=>by omega
theorem gG.succ {l:List Part} {x:Part} {k:Nat} (h:gG l s k) (hx:l[k]?=some x) (bE:x.name≠s):gG l s (k+1):=λj y hj hy=>by
 by_cases e:j=k
 .subst e;rw[hx]at hy;cases hy;exact bE
 .exact h j y (by omega) hy
theorem boxed {cs:Array Value} {t:Nat} (h:Below (w.heap.size+1) (w.alloc (.cells cs t)) w1) (k:Nat):w1.cell? ⟨w.heap.size,k,none⟩=cs[k]?:=by
 have:=h.block w.heap.size (by omega);have h2:w1.heap[w.heap.size]?=some (.cells cs t):=this.trans (by show(w.heap.push _)[w.heap.size]?=_;simp);simp only[World.cell?,h2];rfl
theorem dW {a:Addr} (h:a.block<w.heap.size) (o:Obj):(w.alloc o).cell? a=w.cell? a:=World.cell?_of_block (Kp.alloc w o _ h)
theorem Kh {a:Addr} (h:a.block<w.heap.size) (o o2:Obj) (n:Nat):(((w.alloc o).drewN n).alloc o2).cell? a=w.cell? a:=(dW (by simp;omega) o2).trans (dW h o)
theorem Kp.two (w:World) (o o2:Obj) (n:Nat):Kp w (((w.alloc o).drewN n).alloc o2):=λk hk=>(Kp.alloc ((w.alloc o).drewN n) o2 k (by simp;omega)).trans (Kp.alloc w o k hk)
theorem Below.one (h:Below B a w) (hs:B<=w.heap.size) (o:Obj) (n:Nat):Below B a ((w.alloc o).drewN n):=Below.drewN (h.alloc hs o) n
theorem Below.two (h:Below B a w) (hs:B<=w.heap.size) (o o2:Obj) (n m:Nat):Below B a ((((w.alloc o).drewN n).alloc o2).drewN m):=Below.drewN (Below.alloc (Below.one h hs o n) (by simp;omega) o2) m
theorem bad {r:Int} (h0:r≠0) (h:¬A):r=0↔A:=⟨λh=>absurd h h0,λa=>absurd a h⟩
theorem EX {a:ByteArray} (h:(a.toList==b.toList)=true):a=b:=by
 have h2:=eq_of_beq h;rw[ByteArray.toList_eq,ByteArray.toList_eq]at h2;cases a;cases b;simpa using h2
theorem N4 {a:ByteArray} (h:(a.toList==b.toList)=false):a≠b:=λe=>by subst e;simp at h
theorem Kp.boxed (h:Below (w.heap.size+1) (w.alloc o) w1):Kp w w1:=λk hk=>(h.block k (by omega)).trans (Below.heap_alloc w o k hk)
theorem Below.boxed (h:Below (w.heap.size+1) (w.alloc o) w1):Below w.heap.size w w1:=((Below.refl _ _).alloc (zAC _) o).trans (h.mono (zCN _))
theorem td (w:World) (v:Value) (b:ap) (hb:ar w v b) (hs:fS b) (hp:1<=b.places/\b.places<=4):
 Calls ZP 79 #[v] w (aY w λs=>s=0↔rL b):=by
 obtain⟨v2,v3,v4,rfl,⟨a2,c2,h2,f2⟩,h3,h4⟩:=hb;have H2:Hid (bA w v2 b.parts.length a2 c2/\_):=⟨h2,f2⟩
 obtain⟨rfl,l2,m2,n2,r2⟩:=h2;unfold maxLen at m2;clear r2 f2 n2 h3 h4;go_enter ZF79,Tryz.ntmps79
 go_wp2_with(go_at_call 20;refine(N0 _ _ _ _).mono ?_;rintro e w' ⟨r,rfl,hr,rfl⟩;cases r)
 .go_ret;exact aY.mk (r:=2) ⟨(λh=>by cases h),λh=>absurd (by have:=h.many;omega) hr.f⟩ ((Below.refl _ _).alloc (zAC _) _)
 have hm:=hr.t;go_loopw [3] (λi w1=>∃k:Nat,k<=b.parts.length/\Hid (kz b.places b.parts k)/\i=.int .i64 k/\Hid (Below (w.heap.size+1) (w.alloc (.cells #[.int .i64 b.ac,.int .i64 b.places,.slice a2 b.parts.length c2,v3,v4] 26)) w1)) (λi _=>b.parts.length-(intOf i).toNat)
 case atStart=>exact⟨0,zAR _,.zero _ _,rfl,Below.refl _ _⟩
 case round=>
  obtain⟨k,hk,hN,rfl,hB⟩:=hrel;have g1:=boxed hB.o 1;have g2:=boxed hB.o 2;simp only[zCC,zBM,zBC]at g1 g2;by_cases az:k<b.parts.length
  .obtain⟨⟨blk,off,sp⟩,x,rfl,hx,x0,x1,x2,x3,x4,vf,x5,x6⟩:=H2.o.1.elem H2.o.2 az;obtain rfl:sp=none:=x0.1;have x7:=x6.later (Kp.boxed hB.o);obtain⟨af,cf,hf,_⟩:=x6;obtain⟨rfl,_,_,_,_⟩:=hf;have HX:Hid (b.parts[k]?=some x/\am wr (.slice af x.fits.length cf) x.fits):=⟨hx,x7⟩
   have bW:x.name.size<=maxLen:=by have:=hs k x az hx;unfold maxLen;omega
   have y0:=(x0.later (Kp.boxed hB.o)).2;have y1:=(x1.later (Kp.boxed hB.o)).2;have y2:=(x2.later (Kp.boxed hB.o)).2;have y3:=(x3.later (Kp.boxed hB.o)).2;have y4:=(x4.later (Kp.boxed hB.o)).2;have y5:=(x5.later (Kp.boxed hB.o)).2;simp only[<-zBE]at y0 y1 y2 y3 y4 y5;have jr:w.heap.size+1<=wr.heap.size:=by have:=hB.o.size;simp at this;omega
   have kr:blk<w.heap.size:=x0.lt;have g1':∀o o2 n,(((wr.alloc o).drewN n).alloc o2).cell? ⟨w.heap.size,1,none⟩=some (.int .i64 b.places):=λo o2 n=>(Kh (by show w.heap.size<_;omega) o o2 n).trans g1;have VA:∀o,(wr.alloc o).cell? ⟨w.heap.size,2,none⟩=some (.slice (some ⟨blk,off,none⟩) b.parts.length c2):=λo=>(dW (by show w.heap.size<_;omega) o).trans g2;clear x0 x1 x2 x3 x4 x5 x7 hx;go_wp2_with(go_at_call 103;refine(Dh _ _ bW).mono ?_;rintro e w' ⟨r,rfl,hr,rfl⟩;cases r)
   .go_ret;exact aY.mk (r:=4) ⟨(λh=>by cases h),λh=>absurd (h.all k x az HX.o.1).1.name hr.f⟩ ((Below.boxed hB.o).alloc (by have:=hB.o.size;simp at this;omega) _)
   have HR:Hid (jC x.name):=hr.t;have te:=hid az;clear hr;go_loopw [5] (λi w2=>∃m:Nat,m<=k/\Hid (gG b.parts x.name m)/\i=.int .i64 m/\∃n,w2=(wr.alloc (.cells #[.string x.name,.int .i64 x.cost,.int .i64 x.bY,.int .i64 x.lo,.int .i64 x.hi,.slice af x.fits.length cf] 77)).drewN n) (λi _=>k-(intOf i).toNat)
   case atStart=>exact⟨0,zAR _,.zero _ _,rfl,0,rfl⟩
   case round=>
    obtain⟨m,hm2,hM,rfl,n0,rfl⟩:=hrel;by_cases jg:m<k
    .obtain⟨b',y,yX,hy,z0,z5⟩:=H2.o.1.elem H2.o.2 (show m<b.parts.length by have:=te.o;omega);cases yX;have q0:=((z0.later (Kp.boxed hB.o)).later (Kp.alloc wr (.cells #[.string x.name,.int .i64 x.cost,.int .i64 x.bY,.int .i64 x.lo,.int .i64 x.hi,.slice af x.fits.length cf] 77))).2;simp only at q0;have HY:=hid hy;have Xs:(m:Int)<(k:Int):=by omega
     have BH:(m:Int)<(b.parts.length:Int):=by omega
     clear hy z0 z5;go_wp2
     go_quiet (fail)
     go_wp2
     .rename_i LP;have e:y.name=x.name:=EX LP;go_ret;exact aY.mk (r:=5) (bad (by decide) λh=>(h.all k x te.o HX.o.1).2 m y jg HY.o e) (Below.drewN (Below.one (Below.boxed hB.o) (by omega) _ _) _)
     .rename_i LP;have e:Hid (y.name≠x.name):=N4 LP;clear LP;go_round
      case rel=>exact⟨m+1,by omega,hM.o.succ HY.o e.o,by go_num,_,rfl⟩
      case measure=>simp[intOf];omega
    .have ZZ:am ((((wr.alloc (.cells #[.string x.name,.int .i64 x.cost,.int .i64 x.bY,.int .i64 x.lo,.int .i64 x.hi,.slice af x.fits.length cf] 77)).drewN n0).alloc (.cells #[.int .i64 x.lo,.int .i64 x.hi] 43))) (.slice af x.fits.length cf) x.fits:=
      HX.o.2.later (Kp.two wr _ _ _)
     have FG:0<=b.places/\b.places<=1000:=by omega
     go_wp2_with(first
      |(go_at_call 20;refine(N0 _ _ _ _).mono ?_;rintro e w' ⟨r,rfl,hr,rfl⟩;cases r)
      |(go_at_call 81;refine(ta _ _ _ _ _).mono ?_;rintro e w' ⟨r,rfl,hr,rfl⟩;cases r)
      |(go_at_call 104;refine(Dg _ _ _ _ FG ZZ).mono ?_;rintro e w' ⟨r,n1,rfl,rf,rfl⟩;by_cases rG:r=0))
     .go_ret;exact aY.mk (r:=1) (bad (by decide) λh=>hr.f (h.all k x te.o HX.o.1).1.cost) (Below.one (Below.boxed hB.o) (by omega) _ _)
     .go_ret;exact aY.mk (r:=1) (bad (by decide) λh=>hr.f (h.all k x te.o HX.o.1).1.bY) (Below.one (Below.boxed hB.o) (by omega) _ _)
     .go_ret;exact aY.mk (r:=1) (bad (by decide) λh=>hr.f (h.all k x te.o HX.o.1).1.time) (Below.two (Below.boxed hB.o) (by omega) _ _ _ 0)
     .rename_i BI;have ht:=hr.t;have e:¬x.hi-x.lo<4:=by unfold wrap64 at BI;omega
      go_ret;exact aY.mk (r:=1) (bad (by decide) λh=>e (h.all k x te.o HX.o.1).1.wide) (Below.two (Below.boxed hB.o) (by omega) _ _ _ 0)
     .rename_i zc0 zc1 BI;have ht:=hr.t;have e:x.hi-x.lo<4:=by unfold wrap64 at BI;omega
      have HK:Hid (Di b.places x):=⟨HR.o,zc0.t,zc1.t,ht,e,rf.1 rG⟩
      clear e ht BI hr rf
      have HM:Hid (gG b.parts x.name k):=(by have e:m=k:=by omega
                                             subst e;exact hM.o)
      go_round
      case rel=>exact⟨k+1,by omega,hN.o.succ HX.o.1 HK.o HM.o,by go_num,Below.two hB.o (by omega) _ _ _ _⟩
      case measure=>simp[intOf];omega
     .go_ret;exact aY.mk (bad rG λh=>rG (rf.2 (h.all k x te.o HX.o.1).1.N3)) (Below.two (Below.boxed hB.o) (by omega) _ _ _ _)
  .go_wp2
   go_ret;have e:k=b.parts.length:=by omega
   subst e;exact aY.mk (r:=0) ⟨λ_=>⟨by omega,hN.o⟩,λ_=>rfl⟩ (Below.boxed hB.o)
def scan (f:Nat->Int):Nat->Int
 |0=>0
 |k+1=>if scan f k=0 then f k else scan f k
theorem my {f:Nat->Int} {k:Nat} (h:scan f k=0) (h2:f k=0):scan f (k+1)=0:=by unfold scan;rw[zAI h];exact h2
theorem pQ {f:Nat->Int} {k:Nat} (h:scan f k≠0):∀n,scan f (k+n)=scan f k
 |0=>rfl
 |n+1=>by
  rw[<-zBE,scan,zAH (by rw[pQ h n];exact h),pQ h n]
theorem cg {f:Nat->Int} {k n:Nat} {s:Int} (h:scan f k=0) (hs:f k=s) (h2:s≠0) (hk:k<n):scan f n=s:=by
 have e:scan f (k+1)=s:=by unfold scan;rw[zAI h];exact hs
 obtain⟨m,rfl⟩:∃m,n=k+1+m:=⟨n-(k+1),by omega⟩
 rw[pQ (by rw[e];exact h2),e]
theorem eW {f:Nat->Int}:∀{n:Nat},scan f n=0↔∀j,j<n->f j=0
 |0=>⟨λ_ j h=>by omega,λ_=>rfl⟩
 |n+1=>by
  constructor
  .intro h j hj;by_cases h0:scan f n=0
   .have e:=h;unfold scan at e;rw[zAI h0]at e;by_cases ej:j=n
    .subst ej;exact e
    .exact eW.1 h0 j (by omega)
   .have e:=h;unfold scan at e;rw[zAH h0]at e;exact absurd e h0
  .intro h;exact my (eW.2 λj hj=>h j (by omega)) (h n (by omega))
def gP (n:Int) (l:List Int) (k:Nat):Int:=match l[k]? with
 |none=>0
 |some y=>if 0<=y/\y<=n-1 then(if 0<k then(match l[k-1]? with|some z=>if y<=z then 7 else 0|none=>0)else 0)else 6
def kA (l:List Int) (n:Int):Int:=scan (gP n l) l.length
theorem Xt {l:List Int} {k:Nat} (hy:l[k]?=some y) (h:¬(0<=y/\y<=n-1)):gP n l k=6:=by unfold gP;rw[hy];simp only;rw[zAH h]
theorem Xu {z:Int} {l:List Int} {k:Nat} (hy:l[k]?=some y) (h:0<=y/\y<=n-1) (hk:0<k) (hz:l[k-1]?=some z) (h2:y<=z):gP n l k=7:=by unfold gP;rw[hy];simp only;rw[zAI h,zAI hk,hz];simp only;rw[zAI h2]
theorem Ki {l:List Int} {k:Nat} (hy:l[k]?=some y) (h:0<=y/\y<=n-1) (h2:∀z,0<k->l[k-1]?=some z->z<y):gP n l k=0:=by
 unfold gP;rw[hy];simp only;rw[zAI h];by_cases hk:0<k
 .rw[zAI hk];cases hz:l[k-1]? with
  |none=>rfl
  |some z=>
   simp only;rw[zAH (by have:=h2 z hk hz;omega)]
 .rw[zAH hk]
theorem qD {l:List Int}:kA l n=0↔xO l n:=by
 unfold kA;rw[eW];constructor
 .intro h j y hj hy;have h1:=h j hj;unfold gP at h1;rw[hy]at h1;simp only at h1;split at h1
  .rename_i hr;refine⟨hr.1,hr.2,λz hj0 hz=>?_⟩;rw[zAI hj0,hz]at h1;simp only at h1;split at h1
   .cases h1
   .omega
  .cases h1
 .intro h j hj;have hy:l[j]?=some l[j]:=zAJ hj;have h1:=h j _ hj hy;exact Ki hy ⟨h1.1,h1.2.1⟩ h1.2.2
open Classical in
noncomputable def cW (p:Int) (l:List Part) (k:Nat):Int:=match l[k]? with
 |none=>0
 |some x=>if jC x.name then(if∃i y,i<k/\l[i]?=some y/\y.name=x.name then 5 else
   if(0<=x.cost/\x.cost<=99)/\(0<=x.bY/\x.bY<=3)/\(0<=x.lo/\x.lo<=x.hi/\x.hi<=20)/\x.hi-x.lo<4 then kA x.fits p else 1)else 4
noncomputable def bI (p:Int) (l:List Part):Int:=if 1<=l.length/\l.length<=5 then scan (cW p l) l.length else 2
section
variable {p:Int} {l:List Part} {k:Nat} {x:Part}
theorem SX (hx:l[k]?=some x) (h:¬jC x.name):cW p l k=4:=by unfold cW;rw[hx];simp only;rw[zAH h]
theorem SY (hx:l[k]?=some x) (h:jC x.name) {i:Nat} {y:Part} (hi:i<k) (hy:l[i]?=some y) (hn:y.name=x.name):cW p l k=5:=by
 unfold cW;rw[hx];simp only;rw[zAI h,zAI ⟨i,y,hi,hy,hn⟩]
theorem Dj (hx:l[k]?=some x) (h:jC x.name) (hn:gG l x.name k) (h2:¬((0<=x.cost/\x.cost<=99)/\(0<=x.bY/\x.bY<=3)/\(0<=x.lo/\x.lo<=x.hi/\x.hi<=20)/\x.hi-x.lo<4)):cW p l k=1:=by
 unfold cW;rw[hx];simp only;rw[zAI h,zAH (λ⟨i,y,hi,hy,e⟩=>hn i y hi hy e),zAH h2]
theorem Kj (hx:l[k]?=some x) (h:jC x.name) (hn:gG l x.name k) (h2:(0<=x.cost/\x.cost<=99)/\(0<=x.bY/\x.bY<=3)/\(0<=x.lo/\x.lo<=x.hi/\x.hi<=20)/\x.hi-x.lo<4):cW p l k=kA x.fits p:=by
 unfold cW;rw[hx];simp only;rw[zAI h,zAH (λ⟨i,y,hi,hy,e⟩=>hn i y hi hy e),zAI h2]
theorem Dk (hm:1<=l.length/\l.length<=5):bI p l=scan (cW p l) l.length:=by unfold bI;rw[zAI hm]
end
end Go.Proofs.Cz
