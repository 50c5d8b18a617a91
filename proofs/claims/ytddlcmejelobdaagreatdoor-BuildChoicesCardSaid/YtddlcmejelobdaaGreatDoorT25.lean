/- A part. Conditions: none. -/
import Derived.Test.YtddlcmejelobdaaGreatDoorT01
import Derived.Test.YtddlcmejelobdaaGreatDoorT24
import Derived.WalkSpells
import Derived.WalkLawsBesides
import Derived.Deep.QuietTactic
import Derived.BigQuiet
import Derived.Deep.LoopGhost
set_option linter.all false
set_option maxHeartbeats 8000000
namespace Go.Proofs.Cz
open Go.RowKit
variable {A:Prop} {B:Nat} {a w w1:nq} {b s:ByteArray} {n y:Int} {o:Obj} {v:fu}
def dF (w:nq) (P:Bool->Prop) (e:Ending) (w':nq):Prop:=(∃r,e=.returned (.bool r)/\P r)/\Below w.heap.size w w'
def dF.mk {w w':nq} {P:Bool->Prop} {r:Bool} (h:P r) (hb:Below w.heap.size w w'):dF w P (.returned (.bool r)) w':=⟨⟨r,rfl,h⟩,hb⟩
def Kp.alloc (w:nq) (o:Obj):Kp w (w.alloc o):=λk hk=>Below.heap_alloc w o k hk
def bi.elem {α:Type} {l:List α} {a:Option Addr} {cap:Nat} (h:bi w v l.length a cap) {p:Addr->Nat->α->Prop} (hp:∀b,a=some b->∀j x,l[j]?=some x->p b j x) {k:Nat} (hk:k<l.length):
 ∃b x,a=some b/\l[k]?=some x/\p b k x:=by
 cases a with
 |none=>have:=h.nil rfl;have:=h.le;omega
 |some b=>exact⟨b,l[k],rfl,zAI hk,hp b rfl k _ (zAI hk)⟩
def rt (l:List Part) (k:Nat):Prop:=∀j x,j<k->l[j]?=some x->x.name.size<=100
def rt.succ {l:List Part} {x:Part} {k:Nat} (h:rt l k) (hx:l[k]?=some x) (h1:x.name.size<=100):rt l (k+1):=λj y hj hy=>by
 by_cases e:j=k
 .subst e;rw[hx]at hy;cases hy;exact h1
 .exact h j y (by omega) hy
abbrev gU (b:aj):Prop:=rt b.ptz b.ptz.length
def KE (w:nq) (v:fu) (b:aj) (hb:az w v b):
 Calls ZP 15 #[v] w (dF w λr=>r=false->gU b):=by
 obtain⟨v2,v3,v4,rfl,⟨a2,c2,h2,f2⟩,⟨a3,c3,h3,f3⟩,⟨a4,c4,h4,f4⟩⟩:=hb;have H2:Hid (bi w v2 b.ptz.length a2 c2/\_):=⟨h2,f2⟩
 have H4:Hid (bi w v4 b.cR.length a4 c4/\_):=⟨h4,f4⟩
 obtain⟨rfl,l2,m2,n2,r2⟩:=h2;obtain⟨rfl,l3,m3,n3,r3⟩:=h3;obtain⟨rfl,l4,m4,n4,r4⟩:=h4;unfold maxLen at m2 m3 m4;go_enter ZF15,Tryz.ntmps15
 go_wp2
 all_goals try(go_ret;refine dF.mk (λh=>by cases h) ((Below.refl _ _).alloc (zAA _) _))
 go_loop [3] (λi=>∃k:Nat,k<=b.ptz.length/\Hid (rt b.ptz k)/\i=.int .i64 k) (λi=>b.ptz.length-(intOf i).toNat)
 case atStart=>exact⟨0,zAJ _,(λj x h=>by omega),rfl⟩
 case round=>
  obtain⟨k,hk,hN,rfl⟩:=hrel;by_cases au:k<b.ptz.length
  .obtain⟨⟨blk,off,sp⟩,x,rfl,hx,x0,x1,x2,x3,x4,vf,x5,af,cf,hf,_⟩:=H2.o.1.elem H2.o.2 au;obtain rfl:sp=none:=x0.1;obtain⟨rfl,lf,mf,_,_⟩:=hf;have y0:=(x0.later (Kp.alloc w (.cells #[.int .i64 b.aB,.int .i64 b.aq,.slice (some ⟨blk,off,none⟩) b.ptz.length c2,.slice a3 b.cj.length c3,.slice a4 b.cR.length c4] 26))).2;have y5:=(x5.later (Kp.alloc w (.cells #[.int .i64 b.aB,.int .i64 b.aq,.slice (some ⟨blk,off,none⟩) b.ptz.length c2,.slice a3 b.cj.length c3,.slice a4 b.cR.length c4] 26))).2;simp only[<-zBD]at y0 y5;have HX:=hid hx;go_wp2
   all_goals try(go_ret;refine dF.mk (λh=>by cases h) ((Below.refl _ _).alloc (zAA _) _))
   go_round
   case rel=>exact⟨k+1,by omega,hN.o.succ HX.o (by omega),by go_num⟩
   case measure=>simp[intOf];omega
  .have hN:Hid (gU b):=by have e:k=b.ptz.length:=by omega
                          subst e;exact hN.o
   go_wp2
   go_loop [4] (λi=>∃k:Nat,k<=b.cR.length/\i=.int .i64 k) (λi=>b.cR.length-(intOf i).toNat)
   case atStart=>exact⟨0,zAJ _,rfl⟩
   case round=>
    obtain⟨k,hk,rfl⟩:=hrel;by_cases au:k<b.cR.length
    .obtain⟨⟨blk,off,sp⟩,x,rfl,hx,⟨vf,x0,af,cf,hf,_⟩,_⟩:=H4.o.1.elem H4.o.2 au;obtain rfl:sp=none:=x0.1;obtain⟨rfl,lf,mf,_,_⟩:=hf;have y0:=(x0.later (Kp.alloc w (.cells #[.int .i64 b.aB,.int .i64 b.aq,.slice a2 b.ptz.length c2,.slice a3 b.cj.length c3,.slice (some ⟨blk,off,none⟩) b.cR.length c4] 26))).2;simp only at y0;go_wp2
     all_goals try(go_ret;refine dF.mk (λh=>by cases h) ((Below.refl _ _).alloc (zAA _) _))
     go_round
     case rel=>exact⟨k+1,by omega,by go_num⟩
     case measure=>simp[intOf];omega
    .go_wp2
     all_goals(go_ret;exact dF.mk (λ_=>hN.o) ((Below.refl _ _).alloc (zAA _) _))
def mT (w:nq) (v:fu) (e:Ending) (w':nq):Prop:=e=.returned v/\w'=w
def mT.of (v':fu) (h:v'=v):mT w v (.returned v') w:=⟨by rw[h],rfl⟩
def dF.eq {w':nq} {P:Bool->Prop} {r:Bool} (h:P r) (hb:Below w.heap.size w w') (e:v=.bool r):dF w P (.returned v) w':=by subst e;exact .mk h hb
def Tr (r:Bool) (A:Prop):Prop:=r=true↔A
def Tr.t (h:Tr true A):A:=h.1 rfl
def Tr.f (h:Tr false A):¬A:=λa=>Bool.noConfusion (h.2 a)
def Tr.yes (h:A):Tr true A:=⟨λ_=>h,λ_=>rfl⟩
def Tr.no (h:¬A):Tr false A:=⟨λh=>Bool.noConfusion h,λa=>absurd a h⟩
def dK (w:nq) (P:Bool->Prop) (e:Ending) (w':nq):Prop:=∃r,e=.returned (.bool r)/\P r/\w'=w
def Uf (w:nq) (o:Obj) (P:Bool->Prop) (e:Ending) (w':nq):Prop:=∃r,e=.returned (.bool r)/\P r/\w'=w.alloc o
def zbt (w:nq) (P:Int->Prop) (e:Ending) (w':nq):Prop:=∃r n,e=.returned (.int .i64 r)/\P r/\w'=w.drewN n
def dK.mk {w:nq} {P:Bool->Prop} {r:Bool} (h:P r):dK w P (.returned (.bool r)) w:=⟨r,rfl,h,rfl⟩
def dq (n a b:Int) (w:nq):Calls ZP 115 #[.int .i64 n,.int .i64 a,.int .i64 b] w (mT w (.bool (decide (a<=n)&&decide (n<=b)))):=by
 by_cases h1:a<=n<;>by_cases h2:n<=b
 all_goals
  go_enter ZF115,Tryz.ntmps115
  go_wp2
  go_ret;exact⟨by simp[h1,h2],rfl⟩
def pX (n a b:Int) (w:nq):Calls ZP 12 #[.int .i64 n,.int .i64 a,.int .i64 b] w (mT w (.bool (decide (a<=n)&&decide (n<=b)))):=by
 by_cases h1:a<=n<;>by_cases h2:n<=b
 all_goals
  go_enter ZF12,Tryz.ntmps12
  go_wp2
  go_ret;exact⟨by simp[h1,h2],rfl⟩
def Gs (c:Int) (w:nq):Calls ZP 143 #[.int .u8 c] w (mT w (.bool (decide (97<=c)&&decide (c<=122)))):=by
 by_cases h1:97<=c<;>by_cases h2:c<=122
 all_goals
  go_enter ZF143,Tryz.ntmps143
  go_wp2
  go_ret;exact⟨by simp[h1,h2],rfl⟩
def KF (c:Int) (w:nq):Calls ZP 144 #[.int .u8 c] w (mT w (.bool (decide (48<=c)&&decide (c<=57)))):=by
 by_cases h1:48<=c<;>by_cases h2:c<=57
 all_goals
  go_enter ZF144,Tryz.ntmps144
  go_wp2
  go_ret;exact⟨by simp[h1,h2],rfl⟩
def vZ (lo hi a b:Int) (w:nq):Calls ZP 102 #[.agg #[.int .i64 lo,.int .i64 hi],.int .i64 a,.int .i64 b] w (Uf w (.cells #[.int .i64 lo,.int .i64 hi] 34) λr=>Tr r (a<=lo/\lo<=hi/\hi<=b)):=by
 by_cases h1:a<=lo<;>by_cases h2:lo<=hi<;>by_cases h3:hi<=b
 all_goals
  go_enter ZF102,Tryz.ntmps102
  go_wp2
  go_ret;exact⟨_,rfl,by unfold Tr;simp[h1,h2,h3],rfl⟩
def v6 (lo hi a b m:Int) (hb:0<=a/\b<=1000) (w:nq):Calls ZP 99 #[.agg #[.int .i64 lo,.int .i64 hi],.int .i64 a,.int .i64 b,.int .i64 m] w (Uf w (.cells #[.int .i64 lo,.int .i64 hi] 34) λr=>Tr r (a<=lo/\lo<=hi/\hi<=b/\hi-lo<m)):=by
 by_cases h1:a<=lo<;>by_cases h2:lo<=hi<;>by_cases h3:hi<=b
 all_goals
  go_enter ZF99,Tryz.ntmps99
  go_wp2
  go_ret;refine⟨_,rfl,?_,rfl⟩;unfold Tr
  first
   |(have e:wrap64 (hi-lo)=hi-lo:=by unfold wrap64;omega
     simp[h1,h2,h3,e])
   |(simp[h1,h2,h3];done)
   |(simp[h1,h2,h3];omega)
def bg (w:nq) (P:Int->Prop) (e:Ending) (w':nq):Prop:=(∃r,e=.returned (.int .i64 r)/\P r)/\Below w.heap.size w w'
def bg.mk {w w':nq} {P:Int->Prop} {r:Int} (h:P r) (hb:Below w.heap.size w w'):bg w P (.returned (.int .i64 r)) w':=⟨⟨r,rfl,h⟩,hb⟩
def jT (l:List Int) (x:Int) (k:Nat):Prop:=∀j y,j<k->l[j]?=some y->y≠x
def jT.zero (l:List Int) (x:Int):jT l x 0:=λj y h=>by omega
def jT.succ {l:List Int} {x:Int} {k:Nat} (h:jT l x k) (hy:l[k]?=some y) (bu:y≠x):jT l x (k+1):=λj z hj hz=>by
 by_cases e:j=k
 .subst e;rw[hy]at hz;cases hz;exact bu
 .exact h j z (by omega) hz
def jT.all {l:List Int} {x:Int} (h:jT l x l.length):x∉l:=λhm=>by
 obtain⟨j,hj,rfl⟩:=zBX hm;exact h j _ hj (zAI hj) rfl
def AC (w:nq) (v:fu) (l:List Int) (x:Int) (h:ah w v l):Calls ZP 77 #[v,.int .i64 x] w (mT w (.bool (decide (x∈l)))):=by
 obtain⟨a,c,h1,h2⟩:=h;have H:Hid (bi w v l.length a c/\_):=⟨h1,h2⟩
 obtain⟨rfl,l1,m1,n1,r1⟩:=h1;unfold maxLen at m1;go_enter ZF77,Tryz.ntmps77
 go_wp2
 go_loop [5] (λi=>∃k:Nat,k<=l.length/\Hid (jT l x k)/\i=.int .i64 k) (λi=>l.length-(intOf i).toNat)
 case atStart=>exact⟨0,zAJ _,jT.zero l x,rfl⟩
 case round=>
  obtain⟨k,hk,hN,rfl⟩:=hrel;by_cases au:k<l.length
  .obtain⟨⟨blk,off,sp⟩,y,rfl,hy,y0⟩:=H.o.1.elem H.o.2 au;obtain rfl:sp=none:=y0.1;have g0:=y0.2;simp only at g0;have HY:=hid hy;by_cases e:y=x
   .go_wp2
    go_ret;exact mT.of (.bool true) (by rw[zCK (e▸zAT HY.o)])
   .go_wp2
    go_round
    case rel=>exact⟨k+1,by omega,hN.o.succ HY.o e,by go_num⟩
    case measure=>simp[intOf];omega
  .have e:k=l.length:=by omega
   subst e;go_wp2
   go_ret;exact mT.of (.bool false) (by rw[zCE hN.o.all])
def N6 (l:List Int) (n:Int) (k:Nat):Prop:=∀j y,j<k->l[j]?=some y->0<=y/\y<=n-1/\∀z,0<j->l[j-1]?=some z->z<y
abbrev N7 (l:List Int) (n:Int):Prop:=N6 l n l.length
def Below.drewN (h:Below B a w) (n:Nat):Below B a (w.drewN n):=⟨h.os,h.tape,h.output,h.size,h.block⟩
def wd (c:Int):Prop:=97<=c/\c<=122
def Du (c:Int):Prop:=48<=c/\c<=57
def pY (s:ByteArray) (k:Nat):Prop:=∀j (hj:j<s.size),j<k->wd (s[j].toNat)\/0<j/\Du (s[j].toNat)
def mt (s:ByteArray):Prop:=1<=s.size/\s.size<=10/\pY s s.size
def pY.succ {k:Nat} (h:pY s k) (hk:k<s.size) (h1:wd (s[k].toNat)\/0<k/\Du (s[k].toNat)):pY s (k+1):=λj hj oB=>by
 by_cases e:j=k
 .subst e;exact h1
 .exact h j hj (by omega)
def Dv (w:nq) (c:Int):Calls ZP 143 #[.int .u8 c] w (dK w λr=>Tr r (wd c)):=(Gs c w).mono λ_ _ h=>⟨_,h.1,(by unfold Tr;simp[wd]),h.2⟩
def RJ (w:nq) (c:Int):Calls ZP 144 #[.int .u8 c] w (dK w λr=>Tr r (Du c)):=(KF c w).mono λ_ _ h=>⟨_,h.1,(by unfold Tr;simp[Du]),h.2⟩
def RK (w:nq) (n a b:Int):Calls ZP 12 #[.int .i64 n,.int .i64 a,.int .i64 b] w (dK w λr=>Tr r (a<=n/\n<=b)):=(pX n a b w).mono λ_ _ h=>⟨_,h.1,(by unfold Tr;simp),h.2⟩
def jU (w:nq) (n a b:Int):Calls ZP 115 #[.int .i64 n,.int .i64 a,.int .i64 b] w (dK w λr=>Tr r (a<=n/\n<=b)):=(dq n a b w).mono λ_ _ h=>⟨_,h.1,(by unfold Tr;simp),h.2⟩
def Gt (w:nq) (s:ByteArray) (hs:s.size<=maxLen):Calls ZP 131 #[.string s] w (dK w λr=>Tr r (mt s)):=by
 unfold maxLen at hs;go_enter ZF131,Tryz.ntmps131
 by_cases h1:(s.size:Int)<1
 .go_wp2
  go_ret;exact dK.mk (.no λh=>by have:=h.1;omega)
 by_cases h2:(s.size:Int)>10
 .go_wp2
  go_ret;exact dK.mk (.no λh=>by have:=h.2.1;omega)
 go_wp2
 go_loop [3] (λi=>∃k:Nat,k<=s.size/\Hid (pY s k)/\i=.int .i64 k) (λi=>s.size-(intOf i).toNat)
 case atStart=>exact⟨0,zAJ _,(λj _ h=>by omega),rfl⟩
 case round=>
  obtain⟨k,hk,hN,rfl⟩:=hrel;by_cases au:k<s.size
  .have HL:=hid au;by_cases qA:(k:Int)=0
   .have oT:k=0:=by omega
    go_wp2_with(go_at_call 143;refine(Dv _ _).mono ?_;rintro e w' ⟨r,rfl,hr,rfl⟩;cases r)
    .go_ret;refine dK.mk (.no λh=>?_);rcases h.2.2 0 (by omega) (by omega)with h|h
     .exact hr.f h
     .omega
    .go_round
     case rel=>subst oT;exact⟨0+1,by omega,hN.o.succ HL.o (.inl hr.t),by go_num⟩
     case measure=>simp[intOf];omega
   .go_wp2_with(first|(go_at_call 143;refine(Dv _ _).mono ?_;rintro e w' ⟨r,rfl,hr,rfl⟩;cases r)|(go_at_call 144;refine(RJ _ _).mono ?_;rintro e w' ⟨r,rfl,uA,rfl⟩;cases r))
    .go_ret;refine dK.mk (.no λh=>?_);rcases h.2.2 k (by omega) (by omega)with h|h
     .exact hr.f h
     .exact uA.f h.2
    .go_round
     case rel=>exact⟨k+1,by omega,hN.o.succ HL.o (.inr ⟨by omega,uA.t⟩),by go_num⟩
     case measure=>simp[intOf];omega
    .go_round
     case rel=>exact⟨k+1,by omega,hN.o.succ HL.o (.inl hr.t),by go_num⟩
     case measure=>simp[intOf];omega
  .obtain rfl:k=s.size:=by omega
   go_wp2
   go_ret;refine dK.mk (.yes ⟨by omega,by omega,hN.o⟩)
structure gZ (places:Int) (x:Part):Prop where
 name:mt x.name
 cost:0<=x.cost/\x.cost<=99
 d8:0<=x.d8/\x.d8<=3
 time:0<=x.lo/\x.lo<=x.hi/\x.hi<=20
 wide:x.hi-x.lo<4
 zgB:N7 x.fits places
def oJ (places:Int) (l:List Part) (k:Nat):Prop:=∀j x,j<k->l[j]?=some x->gZ places x/\∀i y,i<j->l[i]?=some y->y.name≠x.name
def oJ.zero (p:Int) (l:List Part):oJ p l 0:=λj x h=>by omega
def oJ.succ {p:Int} {l:List Part} {x:Part} {k:Nat} (h:oJ p l k) (hx:l[k]?=some x) (h1:gZ p x) (h2:∀i y,i<k->l[i]?=some y->y.name≠x.name):oJ p l (k+1):=λj y hj hy=>by
 by_cases e:j=k
 .subst e;rw[hx]at hy;cases hy;exact⟨h1,h2⟩
 .exact h j y (by omega) hy
structure AD (b:aj):Prop where
 many:1<=b.ptz.length/\b.ptz.length<=5
 all:oJ b.aq b.ptz b.ptz.length
def iK (l:List Part) (s:ByteArray) (k:Nat):Prop:=∀j y,j<k->l[j]?=some y->y.name≠s
def iK.zero (l:List Part) (s:ByteArray):iK l s 0:=λj y h=>by omega
def iK.succ {l:List Part} {x:Part} {k:Nat} (h:iK l s k) (hx:l[k]?=some x) (bu:x.name≠s):iK l s (k+1):=λj y hj hy=>by
 by_cases e:j=k
 .subst e;rw[hx]at hy;cases hy;exact bu
 .exact h j y (by omega) hy
def boxed {cs:Array fu} {t:Nat} (h:Below (w.heap.size+1) (w.alloc (.cells cs t)) w1) (k:Nat):w1.cell? ⟨w.heap.size,k,none⟩=cs[k]?:=by
 have:=h.block w.heap.size (by omega);have h2:w1.heap[w.heap.size]?=some (.cells cs t):=this.trans (by show(w.heap.push _)[w.heap.size]?=_;simp);simp only[World.cell?,h2];rfl
def fM {a:Addr} (h:a.block<w.heap.size) (o:Obj):(w.alloc o).cell? a=w.cell? a:=World.cell?_of_block (Kp.alloc w o _ h)
def N8 {a:Addr} (h:a.block<w.heap.size) (o o2:Obj) (n:Nat):(((w.alloc o).drewN n).alloc o2).cell? a=w.cell? a:=(fM (by simp;omega) o2).trans (fM h o)
def Kp.two (w:nq) (o o2:Obj) (n:Nat):Kp w (((w.alloc o).drewN n).alloc o2):=λk hk=>(Kp.alloc ((w.alloc o).drewN n) o2 k (by simp;omega)).trans (Kp.alloc w o k hk)
def Below.one (h:Below B a w) (hs:B<=w.heap.size) (o:Obj) (n:Nat):Below B a ((w.alloc o).drewN n):=Below.drewN (h.alloc hs o) n
def Below.two (h:Below B a w) (hs:B<=w.heap.size) (o o2:Obj) (n m:Nat):Below B a ((((w.alloc o).drewN n).alloc o2).drewN m):=Below.drewN (Below.alloc (Below.one h hs o n) (by simp;omega) o2) m
def IV {a:ByteArray} (h:(a.toList==b.toList)=true):a=b:=by
 have h2:=eq_of_beq h;rw[ByteArray.toList_eq,ByteArray.toList_eq]at h2;cases a;cases b;simpa using h2
def RL {a:ByteArray} (h:(a.toList==b.toList)=false):a≠b:=λe=>by subst e;simp at h
def Kp.boxed (h:Below (w.heap.size+1) (w.alloc o) w1):Kp w w1:=λk hk=>(h.block k (by omega)).trans (Below.heap_alloc w o k hk)
def Below.boxed (h:Below (w.heap.size+1) (w.alloc o) w1):Below w.heap.size w w1:=((Below.refl _ _).alloc (zAA _) o).trans (h.mono (zCU _))
def scan (f:Nat->Int):Nat->Int
 |0=>0
 |k+1=>if scan f k=0 then f k else scan f k
def ij {f:Nat->Int} {k:Nat} (h:scan f k=0) (h2:f k=0):scan f (k+1)=0:=by unfold scan;rw[zAE h];exact h2
def sy {f:Nat->Int} {k:Nat} (h:scan f k≠0):∀n,scan f (k+n)=scan f k
 |0=>rfl
 |n+1=>by
  rw[<-zBD,scan,zAG (by rw[sy h n];exact h),sy h n]
def aO {f:Nat->Int} {k n:Nat} {s:Int} (h:scan f k=0) (hs:f k=s) (h2:s≠0) (hk:k<n):scan f n=s:=by
 have e:scan f (k+1)=s:=by unfold scan;rw[zAE h];exact hs
 obtain⟨m,rfl⟩:∃m,n=k+1+m:=⟨n-(k+1),by omega⟩
 rw[sy (by rw[e];exact h2),e]
def fN {f:Nat->Int}:∀{n:Nat},scan f n=0↔∀j,j<n->f j=0
 |0=>⟨λ_ j h=>by omega,λ_=>rfl⟩
 |n+1=>by
  constructor
  .intro h j hj;by_cases h0:scan f n=0
   .have e:=h;unfold scan at e;rw[zAE h0]at e;by_cases ej:j=n
    .subst ej;exact e
    .exact fN.1 h0 j (by omega)
   .have e:=h;unfold scan at e;rw[zAG h0]at e;exact absurd e h0
  .intro h;exact ij (fN.2 λj hj=>h j (by omega)) (h n (by omega))
def ik (n:Int) (l:List Int) (k:Nat):Int:=match l[k]? with
 |none=>0
 |some y=>if 0<=y/\y<=n-1 then(if 0<k then(match l[k-1]? with|some z=>if y<=z then 7 else 0|none=>0)else 0)else 6
def jV (l:List Int) (n:Int):Int:=scan (ik n l) l.length
def Ug {l:List Int} {k:Nat} (hy:l[k]?=some y) (h:¬(0<=y/\y<=n-1)):ik n l k=6:=by unfold ik;rw[hy];simp only;rw[zAG h]
def Uh {z:Int} {l:List Int} {k:Nat} (hy:l[k]?=some y) (h:0<=y/\y<=n-1) (hk:0<k) (hz:l[k-1]?=some z) (h2:y<=z):ik n l k=7:=by unfold ik;rw[hy];simp only;rw[zAE h,zAE hk,hz];simp only;rw[zAE h2]
def Dw {l:List Int} {k:Nat} (hy:l[k]?=some y) (h:0<=y/\y<=n-1) (h2:∀z,0<k->l[k-1]?=some z->z<y):ik n l k=0:=by
 unfold ik;rw[hy];simp only;rw[zAE h];by_cases hk:0<k
 .rw[zAE hk];cases hz:l[k-1]? with
  |none=>rfl
  |some z=>
   simp only;rw[zAG (by have:=h2 z hk hz;omega)]
 .rw[zAG hk]
def tq {l:List Int}:jV l n=0↔N7 l n:=by
 unfold jV;rw[fN];constructor
 .intro h j y hj hy;have h1:=h j hj;unfold ik at h1;rw[hy]at h1;simp only at h1;split at h1
  .rename_i hr;refine⟨hr.1,hr.2,λz hj0 hz=>?_⟩;rw[zAE hj0,hz]at h1;simp only at h1;split at h1
   .cases h1
   .omega
  .cases h1
 .intro h j hj;have hy:l[j]?=some l[j]:=zAI hj;have h1:=h j _ hj hy;exact Dw hy ⟨h1.1,h1.2.1⟩ h1.2.2
open Classical in
noncomputable def cU (p:Int) (l:List Part) (k:Nat):Int:=match l[k]? with
 |none=>0
 |some x=>if mt x.name then(if∃i y,i<k/\l[i]?=some y/\y.name=x.name then 5 else
   if(0<=x.cost/\x.cost<=99)/\(0<=x.d8/\x.d8<=3)/\(0<=x.lo/\x.lo<=x.hi/\x.hi<=20)/\x.hi-x.lo<4 then jV x.fits p else 1)else 4
noncomputable def bB (p:Int) (l:List Part):Int:=if 1<=l.length/\l.length<=5 then scan (cU p l) l.length else 2
section
variable {p:Int} {l:List Part} {k:Nat} {x:Part}
def N9 (hx:l[k]?=some x) (h:¬mt x.name):cU p l k=4:=by unfold cU;rw[hx];simp only;rw[zAG h]
def Oa (hx:l[k]?=some x) (h:mt x.name) {i:Nat} {y:Part} (hi:i<k) (hy:l[i]?=some y) (hn:y.name=x.name):cU p l k=5:=by
 unfold cU;rw[hx];simp only;rw[zAE h,zAE ⟨i,y,hi,hy,hn⟩]
def pZ (hx:l[k]?=some x) (h:mt x.name) (hn:iK l x.name k) (h2:¬((0<=x.cost/\x.cost<=99)/\(0<=x.d8/\x.d8<=3)/\(0<=x.lo/\x.lo<=x.hi/\x.hi<=20)/\x.hi-x.lo<4)):cU p l k=1:=by
 unfold cU;rw[hx];simp only;rw[zAE h,zAG (λ⟨i,y,hi,hy,e⟩=>hn i y hi hy e),zAG h2]
def AE (hx:l[k]?=some x) (h:mt x.name) (hn:iK l x.name k) (h2:(0<=x.cost/\x.cost<=99)/\(0<=x.d8/\x.d8<=3)/\(0<=x.lo/\x.lo<=x.hi/\x.hi<=20)/\x.hi-x.lo<4):cU p l k=jV x.fits p:=by
 unfold cU;rw[hx];simp only;rw[zAE h,zAG (λ⟨i,y,hi,hy,e⟩=>hn i y hi hy e),zAE h2]
def we (hm:1<=l.length/\l.length<=5):bB p l=scan (cU p l) l.length:=by unfold bB;rw[zAE hm]
end
def Dx (w:nq) (v:fu) (l:List Int) (n:Int) (hn:0<=n/\n<=1000) (h:ah w v l):Calls ZP 31 #[v,.int .i64 n] w (zbt w λs=>s=jV l n):=by
 obtain⟨a,c,h1,h2⟩:=h;have H:Hid (bi w v l.length a c/\_):=⟨h1,h2⟩
 obtain⟨rfl,l1,m1,n1,r1⟩:=h1;unfold maxLen at m1;go_enter ZF31,Tryz.ntmps31
 go_wp2
 go_loopw [5] (λi w1=>∃k:Nat,k<=l.length/\Hid (scan (ik n l) k=0)/\i=.int .i64 k/\∃n,w1=w.drewN n) (λi _=>l.length-(intOf i).toNat)
 case atStart=>exact⟨0,zAJ _,rfl,rfl,0,rfl⟩
 case round=>
  obtain⟨k,hk,hN,rfl,n0,rfl⟩:=hrel;by_cases au:k<l.length
  .obtain⟨⟨blk,off,sp⟩,y,rfl,hy,y0⟩:=H.o.1.elem H.o.2 au;obtain rfl:sp=none:=y0.1;have g0:=y0.2;simp only at g0;have HY:=hid hy;have hw:wrap64 (n-1)=n-1:=by unfold wrap64;omega
   by_cases e1:0<=y/\y<=n-1
   .obtain⟨e1,e2⟩:=e1;by_cases qA:0<k
    .obtain⟨b',z,AF,hz,z0⟩:=H.o.1.elem H.o.2 (show k-1<l.length by omega);cases AF;have g1:=z0.2;simp only at g1;go_wp2_with(go_at_call 12;refine(pX _ _ _ _).mono ?_;rintro e w' ⟨rfl,rfl⟩)
     have oT:wrap64 ((k:Int)-1)=((k-1:Nat):Int):=by unfold wrap64;omega
     have kE:(0:Int)<(k:Int):=by omega
     have lP:((k-1:Nat):Int)<(l.length:Int):=by omega
     have qv:(k:Int)<(l.length:Int):=by omega
     by_cases hzy:y<=z
     .go_quiet (fail)
      go_wp2
      go_ret;exact⟨7,_,rfl,(aO hN.o (Uh HY.o ⟨e1,e2⟩ qA hz hzy) (by decide) au).symm,by simp only[World.drewN_drewN];rfl⟩
     .go_quiet (fail)
      go_wp2
      go_round
      case rel=>exact⟨k+1,by omega,ij hN.o (Dw HY.o ⟨e1,e2⟩ (λz' _ h=>by rw[hz]at h;cases h;omega)),by go_num,_,rfl⟩
      case measure=>simp[intOf];omega
    .have kE:¬(0:Int)<(k:Int):=by omega
     have qv:(k:Int)<(l.length:Int):=by omega
     go_wp2_with(go_at_call 12;refine(pX _ _ _ _).mono ?_;rintro e w' ⟨rfl,rfl⟩)
     go_quiet (fail)
     go_wp2
     go_round
     case rel=>exact⟨k+1,by omega,ij hN.o (Dw HY.o ⟨e1,e2⟩ (λz' h _=>by omega)),by go_num,_,rfl⟩
     case measure=>simp[intOf];omega
   .have e2:(decide (0<=y)&&decide (y<=n-1))=false:=by
     cases hd:(decide (0<=y)&&decide (y<=n-1))with
     |false=>rfl
     |true=>exact absurd (by simpa using hd) e1
    have E1:=hid e1;go_wp2_with(go_at_call 12;refine(pX _ _ _ _).mono ?_;rintro e w' ⟨rfl,rfl⟩)
    go_ret;exact⟨6,_,rfl,(aO hN.o (Ug HY.o E1.o) (by decide) au).symm,rfl⟩
  .have e:k=l.length:=by omega
   subst e;go_wp2
   go_ret;exact⟨0,_,rfl,hN.o.symm,rfl⟩
def ug (w:nq) (v:fu) (b:aj) (hb:az w v b) (hs:gU b) (hp:1<=b.aq/\b.aq<=4):
 Calls ZP 105 #[v] w (bg w λs=>s=bB b.aq b.ptz):=by
 obtain⟨v2,v3,v4,rfl,⟨a2,c2,h2,f2⟩,h3,h4⟩:=hb;have H2:Hid (bi w v2 b.ptz.length a2 c2/\_):=⟨h2,f2⟩
 obtain⟨rfl,l2,m2,n2,r2⟩:=h2;unfold maxLen at m2;go_enter ZF105,Tryz.ntmps105
 go_wp2_with(go_at_call 12;refine(RK _ _ _ _).mono ?_;rintro e w' ⟨r,rfl,hr,rfl⟩;cases r)
 .go_ret;exact bg.mk (r:=2) (by unfold bB;rw[zAG (λh=>hr.f (by omega))]) ((Below.refl _ _).alloc (zAA _) _)
 have hm:=hr.t;have pw:Hid (bB b.aq b.ptz=scan (cU b.aq b.ptz) b.ptz.length):=we (by omega);go_loopw [3] (λi w1=>∃k:Nat,k<=b.ptz.length/\Hid (scan (cU b.aq b.ptz) k=0)/\i=.int .i64 k/\Hid (Below (w.heap.size+1) (w.alloc (.cells #[.int .i64 b.aB,.int .i64 b.aq,.slice a2 b.ptz.length c2,v3,v4] 26)) w1)) (λi _=>b.ptz.length-(intOf i).toNat)
 case atStart=>exact⟨0,zAJ _,rfl,rfl,Below.refl _ _⟩
 case round=>
  obtain⟨k,hk,hN,rfl,hB⟩:=hrel;have g1:=boxed hB.o 1;have g2:=boxed hB.o 2;simp only[zCC,zBI,zBB]at g1 g2;by_cases au:k<b.ptz.length
  .obtain⟨⟨blk,off,sp⟩,x,rfl,hx,x0,x1,x2,x3,x4,vf,x5,x6⟩:=H2.o.1.elem H2.o.2 au;obtain rfl:sp=none:=x0.1;have x7:=x6.later (Kp.boxed hB.o);obtain⟨af,cf,hf,_⟩:=x6;obtain⟨rfl,_,_,_,_⟩:=hf;have HX:Hid (b.ptz[k]?=some x/\ah wr (.slice af x.fits.length cf) x.fits):=⟨hx,x7⟩
   have cB:x.name.size<=maxLen:=by have:=hs k x au hx;unfold maxLen;omega
   have y0:=(x0.later (Kp.boxed hB.o)).2;have y1:=(x1.later (Kp.boxed hB.o)).2;have y2:=(x2.later (Kp.boxed hB.o)).2;have y3:=(x3.later (Kp.boxed hB.o)).2;have y4:=(x4.later (Kp.boxed hB.o)).2;have y5:=(x5.later (Kp.boxed hB.o)).2;simp only[<-zBD]at y0 y1 y2 y3 y4 y5;have kd:w.heap.size+1<=wr.heap.size:=by have:=hB.o.size;simp at this;omega
   have lO:=x0.lt;have g1':∀o o2 n,(((wr.alloc o).drewN n).alloc o2).cell? ⟨w.heap.size,1,none⟩=some (.int .i64 b.aq):=λo o2 n=>(N8 (by show w.heap.size<_;omega) o o2 n).trans g1;have ZZ:∀o,(wr.alloc o).cell? ⟨w.heap.size,2,none⟩=some (.slice (some ⟨blk,off,none⟩) b.ptz.length c2):=λo=>(fM (by show w.heap.size<_;omega) o).trans g2;go_wp2_with(go_at_call 131;refine(Gt _ _ cB).mono ?_;rintro e w' ⟨r,rfl,hr,rfl⟩;cases r)
   .go_ret;exact bg.mk (r:=4) (pw.o.trans (aO hN.o (N9 HX.o.1 hr.f) (by decide) au)).symm ((Below.boxed hB.o).alloc (by have:=hB.o.size;simp at this;omega) _)
   have HR:=hid hr.t;have Dy:=hid au;go_loopw [5] (λi w2=>∃m:Nat,m<=k/\Hid (iK b.ptz x.name m)/\i=.int .i64 m/\∃n,w2=(wr.alloc (.cells #[.string x.name,.int .i64 x.cost,.int .i64 x.d8,.int .i64 x.lo,.int .i64 x.hi,.slice af x.fits.length cf] 37)).drewN n) (λi _=>k-(intOf i).toNat)
   case atStart=>exact⟨0,zAJ _,.zero _ _,rfl,0,rfl⟩
   case round=>
    obtain⟨m,hm2,hM,rfl,n0,rfl⟩:=hrel;by_cases jb:m<k
    .obtain⟨b',y,AF,hy,z0,z5⟩:=H2.o.1.elem H2.o.2 (show m<b.ptz.length by have:=Dy.o;omega);cases AF;have q0:=((z0.later (Kp.boxed hB.o)).later (Kp.alloc wr (.cells #[.string x.name,.int .i64 x.cost,.int .i64 x.d8,.int .i64 x.lo,.int .i64 x.hi,.slice af x.fits.length cf] 37))).2;simp only at q0;have HY:=hid hy;have zbu:(m:Int)<(k:Int):=by omega
     have BU:(m:Int)<(b.ptz.length:Int):=by omega
     go_wp2
     go_quiet (fail)
     go_wp2
     .rename_i PS;have e:=IV PS;go_ret;exact bg.mk (r:=5) (pw.o.trans (aO hN.o (Oa HX.o.1 HR.o jb HY.o e) (by decide) Dy.o)).symm (Below.drewN (Below.one (Below.boxed hB.o) (by omega) _ _) _)
     .rename_i PS;have e:=hid (RL PS);go_round
      case rel=>exact⟨m+1,by omega,hM.o.succ HY.o e.o,by go_num,_,rfl⟩
      case measure=>simp[intOf];omega
    .have HM:Hid (iK b.ptz x.name k):=(by have e:m=k:=(by omega);subst e;exact hM.o)
     have x6':ah ((((wr.alloc (.cells #[.string x.name,.int .i64 x.cost,.int .i64 x.d8,.int .i64 x.lo,.int .i64 x.hi,.slice af x.fits.length cf] 37)).drewN n0).alloc (.cells #[.int .i64 x.lo,.int .i64 x.hi] 34))) (.slice af x.fits.length cf) x.fits:=
      HX.o.2.later (Kp.two wr _ _ _)
     have LJ:0<=b.aq/\b.aq<=1000:=by omega
     go_wp2_with(first
      |(go_at_call 12;refine(RK _ _ _ _).mono ?_;rintro e w' ⟨r,rfl,hr,rfl⟩;cases r)
      |(go_at_call 102;refine(vZ _ _ _ _ _).mono ?_;rintro e w' ⟨r,rfl,hr,rfl⟩;cases r)
      |(go_at_call 31;refine(Dx _ _ _ _ LJ x6').mono ?_;rintro e w' ⟨r,n1,rfl,uA,rfl⟩;by_cases q7:r=0))
     .go_ret;exact bg.mk (r:=1) (pw.o.trans (aO hN.o (pZ HX.o.1 HR.o HM.o λh=>hr.f h.1) (by decide) Dy.o)).symm (Below.one (Below.boxed hB.o) (by omega) _ _)
     .go_ret;exact bg.mk (r:=1) (pw.o.trans (aO hN.o (pZ HX.o.1 HR.o HM.o λh=>hr.f h.2.1) (by decide) Dy.o)).symm (Below.one (Below.boxed hB.o) (by omega) _ _)
     .go_ret;exact bg.mk (r:=1) (pw.o.trans (aO hN.o (pZ HX.o.1 HR.o HM.o λh=>hr.f h.2.2.1) (by decide) Dy.o)).symm (Below.two (Below.boxed hB.o) (by omega) _ _ _ 0)
     .rename_i YF;have ht:=hr.t;have e:¬x.hi-x.lo<4:=by unfold wrap64 at YF;omega
      go_ret;exact bg.mk (r:=1) (pw.o.trans (aO hN.o (pZ HX.o.1 HR.o HM.o λh=>e h.2.2.2) (by decide) Dy.o)).symm (Below.two (Below.boxed hB.o) (by omega) _ _ _ 0)
     .rename_i Xf Xg YF _;have ht:=hr.t;have e:x.hi-x.lo<4:=by unfold wrap64 at YF;omega
      have HK:=hid (((AE HX.o.1 HR.o HM.o ⟨Xf.t,Xg.t,ht,e⟩).trans (uA.symm.trans q7):cU b.aq b.ptz k=0));go_round
      case rel=>exact⟨k+1,by omega,ij hN.o HK.o,by go_num,Below.two hB.o (by omega) _ _ _ _⟩
      case measure=>simp[intOf];omega
     .go_ret;exact bg.mk (by rename_i Xf Xg YF _;have ht:=hr.t;have e:x.hi-x.lo<4:=(by unfold wrap64 at YF;omega);exact(pw.o.trans (aO hN.o (AE HX.o.1 HR.o HM.o ⟨Xf.t,Xg.t,ht,e⟩) (by rw[<-uA];exact q7) Dy.o)).symm) (Below.two (Below.boxed hB.o) (by omega) _ _ _ _)
  .go_wp2
   go_ret;have e:k=b.ptz.length:=by omega
   subst e;exact bg.mk (r:=0) (pw.o.trans hN.o).symm (Below.boxed hB.o)
end Go.Proofs.Cz
