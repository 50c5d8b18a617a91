/- A part. Conditions: none. -/
import Derived.Test.YtboiakcocelkmaaGreatDoorT22
import Derived.WalkSpells
import Derived.WalkLawsBesides
import Derived.Deep.QuietTactic
import Derived.BigQuiet
import Derived.Deep.LoopGhost
set_option linter.all false
set_option maxHeartbeats 8000000
namespace Go.Proofs.Cz
open Go.RowKit
variable {A:Prop} {B:Nat} {a w w1:World} {b s:ByteArray} {n y:Int} {o:Obj} {v:Value}
def cZ (w:World) (P:Bool->Prop) (e:Ending) (w':World):Prop:=(∃r,e=.returned (.bool r)/\P r)/\Below w.heap.size w w'
theorem cZ.mk {w w':World} {P:Bool->Prop} {r:Bool} (h:P r) (hb:Below w.heap.size w w'):cZ w P (.returned (.bool r)) w':=⟨⟨r,rfl,h⟩,hb⟩
theorem Kp.alloc (w:World) (o:Obj):Kp w (w.alloc o):=fun k hk=>Below.heap_alloc w o k hk
theorem bH.elem {α:Type} {l:List α} {a:Option Addr} {cap:Nat} (h:bH w v l.length a cap) {p:Addr->Nat->α->Prop} (hp:∀b,a=some b->∀j x,l[j]?=some x->p b j x) {k:Nat} (hk:k<l.length):
 ∃b x,a=some b/\l[k]?=some x/\p b k x:=by
 cases a with
 |none=>have:=h.nil rfl;have:=h.le;omega
 |some b=>exact⟨b,l[k],rfl,List.getElem?_eq_getElem hk,hp b rfl k _ (List.getElem?_eq_getElem hk)⟩
def nW (l:List Part) (k:Nat):Prop:=∀j x,j<k->l[j]?=some x->x.name.size<=100
theorem nW.succ {l:List Part} {x:Part} {k:Nat} (h:nW l k) (hx:l[k]?=some x) (h1:x.name.size<=100):nW l (k+1):=fun j y hj hy=>by
 by_cases e:j=k
 .subst e;rw[hx]at hy;cases hy;exact h1
 .exact h j y (by omega) hy
abbrev de (b:ao):Prop:=nW b.parts b.parts.length
theorem FE (w:World) (v:Value) (b:ao) (hb:au w v b):
 Calls ZP 5 #[v] w (cZ w fun r=>r=false->de b):=by
 obtain⟨v2,v3,v4,rfl,⟨a2,c2,h2,f2⟩,⟨a3,c3,h3,f3⟩,⟨a4,c4,h4,f4⟩⟩:=hb;have H2:Hid (bH w v2 b.parts.length a2 c2/\_):=⟨h2,f2⟩
 have H4:Hid (bH w v4 b.ab.length a4 c4/\_):=⟨h4,f4⟩
 obtain⟨rfl,l2,m2,n2,r2⟩:=h2;obtain⟨rfl,l3,m3,n3,r3⟩:=h3;obtain⟨rfl,l4,m4,n4,r4⟩:=h4;unfold maxLen at m2 m3 m4;clear r2 r3 r4 f2 f3 f4 n2 n3 n4;go_enter ZF5,Tryz.ntmps5
 go_wp2
 all_goals try(go_ret;refine cZ.mk (fun h=>by cases h) ((Below.refl _ _).alloc (Nat.le_refl _) _))
 go_loop [3] (fun i=>∃k:Nat,k<=b.parts.length/\Hid (nW b.parts k)/\i=.int .i64 k) (fun i=>b.parts.length-(intOf i).toNat)
 case atStart=>exact⟨0,Nat.zero_le _,(fun j x h=>by omega),rfl⟩
 case round=>
  obtain⟨k,hk,hN,rfl⟩:=hrel;by_cases az:k<b.parts.length
  .obtain⟨⟨blk,off,sp⟩,x,rfl,hx,x0,x1,x2,x3,x4,vf,x5,af,cf,hf,_⟩:=H2.o.1.elem H2.o.2 az;obtain rfl:sp=none:=x0.1;obtain⟨rfl,lf,mf,_,_⟩:=hf;have y0:=(x0.later (Kp.alloc w (.cells #[.int .i64 b.ak,.int .i64 b.places,.slice (some ⟨blk,off,none⟩) b.parts.length c2,.slice a3 b.apart.length c3,.slice a4 b.ab.length c4] 26))).2;have y5:=(x5.later (Kp.alloc w (.cells #[.int .i64 b.ak,.int .i64 b.places,.slice (some ⟨blk,off,none⟩) b.parts.length c2,.slice a3 b.apart.length c3,.slice a4 b.ab.length c4] 26))).2;simp only[<-Nat.add_assoc]at y0 y5;clear x0 x1 x2 x3 x4 x5;have HX:=hid hx;go_wp2
   all_goals try(go_ret;refine cZ.mk (fun h=>by cases h) ((Below.refl _ _).alloc (Nat.le_refl _) _))
   go_round
   case rel=>exact⟨k+1,by omega,hN.o.succ HX.o (by omega),by go_num⟩
   case measure=>simp[intOf];omega
  .have hN:Hid (de b):=by have e:k=b.parts.length:=by omega
                          subst e;exact hN.o
   go_wp2
   go_loop [4] (fun i=>∃k:Nat,k<=b.ab.length/\i=.int .i64 k) (fun i=>b.ab.length-(intOf i).toNat)
   case atStart=>exact⟨0,Nat.zero_le _,rfl⟩
   case round=>
    obtain⟨k,hk,rfl⟩:=hrel;by_cases az:k<b.ab.length
    .obtain⟨⟨blk,off,sp⟩,x,rfl,hx,⟨vf,x0,af,cf,hf,_⟩,_⟩:=H4.o.1.elem H4.o.2 az;obtain rfl:sp=none:=x0.1;obtain⟨rfl,lf,mf,_,_⟩:=hf;have y0:=(x0.later (Kp.alloc w (.cells #[.int .i64 b.ak,.int .i64 b.places,.slice a2 b.parts.length c2,.slice a3 b.apart.length c3,.slice (some ⟨blk,off,none⟩) b.ab.length c4] 26))).2;simp only at y0;clear x0;go_wp2
     all_goals try(go_ret;refine cZ.mk (fun h=>by cases h) ((Below.refl _ _).alloc (Nat.le_refl _) _))
     go_round
     case rel=>exact⟨k+1,by omega,by go_num⟩
     case measure=>simp[intOf];omega
    .go_wp2
     all_goals(go_ret;exact cZ.mk (fun _=>hN.o) ((Below.refl _ _).alloc (Nat.le_refl _) _))
def gD (w:World) (v:Value) (e:Ending) (w':World):Prop:=e=.returned v/\w'=w
theorem gD.of (v':Value) (h:v'=v):gD w v (.returned v') w:=⟨by rw[h],rfl⟩
theorem cZ.eq {w':World} {P:Bool->Prop} {r:Bool} (h:P r) (hb:Below w.heap.size w w') (e:v=.bool r):cZ w P (.returned v) w':=by subst e;exact .mk h hb
def Tr (r:Bool) (A:Prop):Prop:=r=true↔A
theorem Tr.t (h:Tr true A):A:=h.1 rfl
theorem Tr.f (h:Tr false A):¬A:=fun a=>Bool.noConfusion (h.2 a)
theorem Tr.yes (h:A):Tr true A:=⟨fun _=>h,fun _=>rfl⟩
theorem Tr.no (h:¬A):Tr false A:=⟨fun h=>Bool.noConfusion h,fun a=>absurd a h⟩
def da (w:World) (P:Bool->Prop) (e:Ending) (w':World):Prop:=∃r,e=.returned (.bool r)/\P r/\w'=w
def Oq (w:World) (o:Obj) (P:Bool->Prop) (e:Ending) (w':World):Prop:=∃r,e=.returned (.bool r)/\P r/\w'=w.alloc o
def U6 (w:World) (P:Int->Prop) (e:Ending) (w':World):Prop:=∃r n,e=.returned (.int .i64 r)/\P r/\w'=w.drewN n
theorem da.mk {w:World} {P:Bool->Prop} {r:Bool} (h:P r):da w P (.returned (.bool r)) w:=⟨r,rfl,h,rfl⟩
theorem bZ (n a b:Int) (w:World):Calls ZP 66 #[.int .i64 n,.int .i64 a,.int .i64 b] w (gD w (.bool (decide (a<=n)&&decide (n<=b)))):=by
 by_cases h1:a<=n<;>by_cases h2:n<=b
 all_goals
  go_enter ZF66,Tryz.ntmps66
  go_wp2
  go_ret;exact⟨by simp[h1,h2],rfl⟩
theorem ls (n a b:Int) (w:World):Calls ZP 68 #[.int .i64 n,.int .i64 a,.int .i64 b] w (gD w (.bool (decide (a<=n)&&decide (n<=b)))):=by
 by_cases h1:a<=n<;>by_cases h2:n<=b
 all_goals
  go_enter ZF68,Tryz.ntmps68
  go_wp2
  go_ret;exact⟨by simp[h1,h2],rfl⟩
theorem Cg (c:Int) (w:World):Calls ZP 136 #[.int .u8 c] w (gD w (.bool (decide (97<=c)&&decide (c<=122)))):=by
 by_cases h1:97<=c<;>by_cases h2:c<=122
 all_goals
  go_enter ZF136,Tryz.ntmps136
  go_wp2
  go_ret;exact⟨by simp[h1,h2],rfl⟩
theorem FF (c:Int) (w:World):Calls ZP 137 #[.int .u8 c] w (gD w (.bool (decide (48<=c)&&decide (c<=57)))):=by
 by_cases h1:48<=c<;>by_cases h2:c<=57
 all_goals
  go_enter ZF137,Tryz.ntmps137
  go_wp2
  go_ret;exact⟨by simp[h1,h2],rfl⟩
theorem sq (lo hi a b:Int) (w:World):Calls ZP 72 #[.agg #[.int .i64 lo,.int .i64 hi],.int .i64 a,.int .i64 b] w (Oq w (.cells #[.int .i64 lo,.int .i64 hi] 37) fun r=>Tr r (a<=lo/\lo<=hi/\hi<=b)):=by
 by_cases h1:a<=lo<;>by_cases h2:lo<=hi<;>by_cases h3:hi<=b
 all_goals
  go_enter ZF72,Tryz.ntmps72
  go_wp2
  go_ret;exact⟨_,rfl,by unfold Tr;simp[h1,h2,h3],rfl⟩
theorem sr (lo hi a b m:Int) (hb:0<=a/\b<=1000) (w:World):Calls ZP 94 #[.agg #[.int .i64 lo,.int .i64 hi],.int .i64 a,.int .i64 b,.int .i64 m] w (Oq w (.cells #[.int .i64 lo,.int .i64 hi] 37) fun r=>Tr r (a<=lo/\lo<=hi/\hi<=b/\hi-lo<m)):=by
 by_cases h1:a<=lo<;>by_cases h2:lo<=hi<;>by_cases h3:hi<=b
 all_goals
  go_enter ZF94,Tryz.ntmps94
  go_wp2
  go_ret;refine⟨_,rfl,?_,rfl⟩;unfold Tr
  first
   |(have e:wrap64 (hi-lo)=hi-lo:=by unfold wrap64;omega
     simp[h1,h2,h3,e])
   |(simp[h1,h2,h3];done)
   |(simp[h1,h2,h3];omega)
def aW (w:World) (P:Int->Prop) (e:Ending) (w':World):Prop:=(∃r,e=.returned (.int .i64 r)/\P r)/\Below w.heap.size w w'
theorem aW.mk {w w':World} {P:Int->Prop} {r:Int} (h:P r) (hb:Below w.heap.size w w'):aW w P (.returned (.int .i64 r)) w':=⟨⟨r,rfl,h⟩,hb⟩
def iv (l:List Int) (x:Int) (k:Nat):Prop:=∀j y,j<k->l[j]?=some y->y≠x
theorem iv.zero (l:List Int) (x:Int):iv l x 0:=fun j y h=>by omega
theorem iv.succ {l:List Int} {x:Int} {k:Nat} (h:iv l x k) (hy:l[k]?=some y) (bJ:y≠x):iv l x (k+1):=fun j z hj hz=>by
 by_cases e:j=k
 .subst e;rw[hy]at hz;cases hz;exact bJ
 .exact h j z (by omega) hz
theorem iv.all {l:List Int} {x:Int} (h:iv l x l.length):x∉l:=fun hm=>by
 obtain⟨j,hj,rfl⟩:=List.getElem_of_mem hm;exact h j _ hj (List.getElem?_eq_getElem hj) rfl
theorem DX (w:World) (v:Value) (l:List Int) (x:Int) (h:an w v l):Calls ZP 108 #[v,.int .i64 x] w (gD w (.bool (decide (x∈l)))):=by
 obtain⟨a,c,h1,h2⟩:=h;have H:Hid (bH w v l.length a c/\_):=⟨h1,h2⟩
 obtain⟨rfl,l1,m1,n1,r1⟩:=h1;unfold maxLen at m1;clear h2 n1 r1;go_enter ZF108,Tryz.ntmps108
 go_wp2
 go_loop [5] (fun i=>∃k:Nat,k<=l.length/\Hid (iv l x k)/\i=.int .i64 k) (fun i=>l.length-(intOf i).toNat)
 case atStart=>exact⟨0,Nat.zero_le _,iv.zero l x,rfl⟩
 case round=>
  obtain⟨k,hk,hN,rfl⟩:=hrel;by_cases az:k<l.length
  .obtain⟨⟨blk,off,sp⟩,y,rfl,hy,y0⟩:=H.o.1.elem H.o.2 az;obtain rfl:sp=none:=y0.1;have g0:=y0.2;simp only at g0;have HY:=hid hy;clear y0 hy;by_cases e:y=x
   .go_wp2
    go_ret;exact gD.of (.bool true) (by rw[decide_eq_true (e▸List.mem_of_getElem? HY.o)])
   .go_wp2
    go_round
    case rel=>exact⟨k+1,by omega,hN.o.succ HY.o e,by go_num⟩
    case measure=>simp[intOf];omega
  .have e:k=l.length:=by omega
   subst e;go_wp2
   go_ret;exact gD.of (.bool false) (by rw[decide_eq_false hN.o.all])
def I3 (l:List Int) (n:Int) (k:Nat):Prop:=∀j y,j<k->l[j]?=some y->0<=y/\y<=n-1/\∀z,0<j->l[j-1]?=some z->z<y
abbrev I4 (l:List Int) (n:Int):Prop:=I3 l n l.length
theorem Below.drewN (h:Below B a w) (n:Nat):Below B a (w.drewN n):=⟨h.os,h.tape,h.output,h.size,h.block⟩
def su (c:Int):Prop:=97<=c/\c<=122
def zo (c:Int):Prop:=48<=c/\c<=57
def mP (s:ByteArray) (k:Nat):Prop:=∀j (hj:j<s.size),j<k->su (s[j].toNat)\/0<j/\zo (s[j].toNat)
def ji (s:ByteArray):Prop:=1<=s.size/\s.size<=10/\mP s s.size
theorem mP.succ {k:Nat} (h:mP s k) (hk:k<s.size) (h1:su (s[k].toNat)\/0<k/\zo (s[k].toNat)):mP s (k+1):=fun j hj mG=>by
 by_cases e:j=k
 .subst e;exact h1
 .exact h j hj (by omega)
theorem zp (w:World) (c:Int):Calls ZP 136 #[.int .u8 c] w (da w fun r=>Tr r (su c)):=(Cg c w).mono fun _ _ h=>⟨_,h.1,(by unfold Tr;simp[su]),h.2⟩
theorem MA (w:World) (c:Int):Calls ZP 137 #[.int .u8 c] w (da w fun r=>Tr r (zo c)):=(FF c w).mono fun _ _ h=>⟨_,h.1,(by unfold Tr;simp[zo]),h.2⟩
theorem MB (w:World) (n a b:Int):Calls ZP 68 #[.int .i64 n,.int .i64 a,.int .i64 b] w (da w fun r=>Tr r (a<=n/\n<=b)):=(ls n a b w).mono fun _ _ h=>⟨_,h.1,(by unfold Tr;simp),h.2⟩
theorem iw (w:World) (n a b:Int):Calls ZP 66 #[.int .i64 n,.int .i64 a,.int .i64 b] w (da w fun r=>Tr r (a<=n/\n<=b)):=(bZ n a b w).mono fun _ _ h=>⟨_,h.1,(by unfold Tr;simp),h.2⟩
theorem Ch (w:World) (s:ByteArray) (hs:s.size<=maxLen):Calls ZP 111 #[.string s] w (da w fun r=>Tr r (ji s)):=by
 unfold maxLen at hs;go_enter ZF111,Tryz.ntmps111
 by_cases h1:(s.size:Int)<1
 .go_wp2
  go_ret;exact da.mk (.no fun h=>by have:=h.1;omega)
 by_cases h2:(s.size:Int)>10
 .go_wp2
  go_ret;exact da.mk (.no fun h=>by have:=h.2.1;omega)
 go_wp2
 go_loop [3] (fun i=>∃k:Nat,k<=s.size/\Hid (mP s k)/\i=.int .i64 k) (fun i=>s.size-(intOf i).toNat)
 case atStart=>exact⟨0,Nat.zero_le _,(fun j _ h=>by omega),rfl⟩
 case round=>
  obtain⟨k,hk,hN,rfl⟩:=hrel;by_cases az:k<s.size
  .have HL:Hid (k<s.size):=az;by_cases rk:(k:Int)=0
   .have oA:k=0:=by omega
    go_wp2_with(go_at_call 136;refine(zp _ _).mono ?_;rintro e w' ⟨r,rfl,hr,rfl⟩;cases r)
    .go_ret;refine da.mk (.no fun h=>?_);rcases h.2.2 0 (by omega) (by omega)with h|h
     .exact hr.f h
     .omega
    .go_round
     case rel=>subst oA;exact⟨0+1,by omega,hN.o.succ HL.o (.inl hr.t),by go_num⟩
     case measure=>simp[intOf];omega
   .go_wp2_with(first|(go_at_call 136;refine(zp _ _).mono ?_;rintro e w' ⟨r,rfl,hr,rfl⟩;cases r)|(go_at_call 137;refine(MA _ _).mono ?_;rintro e w' ⟨r,rfl,qu,rfl⟩;cases r))
    .go_ret;refine da.mk (.no fun h=>?_);rcases h.2.2 k (by omega) (by omega)with h|h
     .exact hr.f h
     .exact qu.f h.2
    .go_round
     case rel=>exact⟨k+1,by omega,hN.o.succ HL.o (.inr ⟨by omega,qu.t⟩),by go_num⟩
     case measure=>simp[intOf];omega
    .go_round
     case rel=>exact⟨k+1,by omega,hN.o.succ HL.o (.inl hr.t),by go_num⟩
     case measure=>simp[intOf];omega
  .obtain rfl:k=s.size:=by omega
   go_wp2
   go_ret;refine da.mk (.yes ⟨by omega,by omega,hN.o⟩)
structure I5 (places:Int) (x:Part):Prop where
 name:ji x.name
 cost:0<=x.cost/\x.cost<=99
 fN:0<=x.fN/\x.fN<=3
 time:0<=x.lo/\x.lo<=x.hi/\x.hi<=20
 wide:x.hi-x.lo<4
 zap:I4 x.fits places
def lN (places:Int) (l:List Part) (k:Nat):Prop:=∀j x,j<k->l[j]?=some x->I5 places x/\∀i y,i<j->l[i]?=some y->y.name≠x.name
theorem lN.zero (p:Int) (l:List Part):lN p l 0:=fun j x h=>by omega
theorem lN.succ {p:Int} {l:List Part} {x:Part} {k:Nat} (h:lN p l k) (hx:l[k]?=some x) (h1:I5 p x) (h2:∀i y,i<k->l[i]?=some y->y.name≠x.name):lN p l (k+1):=fun j y hj hy=>by
 by_cases e:j=k
 .subst e;rw[hx]at hy;cases hy;exact⟨h1,h2⟩
 .exact h j y (by omega) hy
structure wI (b:ao):Prop where
 many:1<=b.parts.length/\b.parts.length<=5
 all:lN b.places b.parts b.parts.length
def fW (l:List Part) (s:ByteArray) (k:Nat):Prop:=∀j y,j<k->l[j]?=some y->y.name≠s
theorem fW.zero (l:List Part) (s:ByteArray):fW l s 0:=fun j y h=>by omega
theorem fW.succ {l:List Part} {x:Part} {k:Nat} (h:fW l s k) (hx:l[k]?=some x) (bJ:x.name≠s):fW l s (k+1):=fun j y hj hy=>by
 by_cases e:j=k
 .subst e;rw[hx]at hy;cases hy;exact bJ
 .exact h j y (by omega) hy
theorem boxed {cs:Array Value} {t:Nat} (h:Below (w.heap.size+1) (w.alloc (.cells cs t)) w1) (k:Nat):w1.cell? ⟨w.heap.size,k,none⟩=cs[k]?:=by
 have:=h.block w.heap.size (by omega);have h2:w1.heap[w.heap.size]?=some (.cells cs t):=this.trans (by show(w.heap.push _)[w.heap.size]?=_;simp);simp only[World.cell?,h2];rfl
theorem dI {a:Addr} (h:a.block<w.heap.size) (o:Obj):(w.alloc o).cell? a=w.cell? a:=World.cell?_of_block (Kp.alloc w o _ h)
theorem I6 {a:Addr} (h:a.block<w.heap.size) (o o2:Obj) (n:Nat):(((w.alloc o).drewN n).alloc o2).cell? a=w.cell? a:=(dI (by simp;omega) o2).trans (dI h o)
theorem Kp.two (w:World) (o o2:Obj) (n:Nat):Kp w (((w.alloc o).drewN n).alloc o2):=fun k hk=>(Kp.alloc ((w.alloc o).drewN n) o2 k (by simp;omega)).trans (Kp.alloc w o k hk)
theorem Below.one (h:Below B a w) (hs:B<=w.heap.size) (o:Obj) (n:Nat):Below B a ((w.alloc o).drewN n):=Below.drewN (h.alloc hs o) n
theorem Below.two (h:Below B a w) (hs:B<=w.heap.size) (o o2:Obj) (n m:Nat):Below B a ((((w.alloc o).drewN n).alloc o2).drewN m):=Below.drewN (Below.alloc (Below.one h hs o n) (by simp;omega) o2) m
theorem DY {a:ByteArray} (h:(a.toList==b.toList)=true):a=b:=by
 have h2:=eq_of_beq h;rw[ByteArray.toList_eq,ByteArray.toList_eq]at h2;cases a;cases b;simpa using h2
theorem MC {a:ByteArray} (h:(a.toList==b.toList)=false):a≠b:=fun e=>by subst e;simp at h
theorem Kp.boxed (h:Below (w.heap.size+1) (w.alloc o) w1):Kp w w1:=fun k hk=>(h.block k (by omega)).trans (Below.heap_alloc w o k hk)
theorem Below.boxed (h:Below (w.heap.size+1) (w.alloc o) w1):Below w.heap.size w w1:=((Below.refl _ _).alloc (Nat.le_refl _) o).trans (h.mono (Nat.le_succ _))
def scan (f:Nat->Int):Nat->Int
 |0=>0
 |k+1=>if scan f k=0 then f k else scan f k
theorem fC {f:Nat->Int} {k:Nat} (h:scan f k=0) (h2:f k=0):scan f (k+1)=0:=by unfold scan;rw[if_pos h];exact h2
theorem pm {f:Nat->Int} {k:Nat} (h:scan f k≠0):∀n,scan f (k+n)=scan f k
 |0=>rfl
 |n+1=>by
  rw[<-Nat.add_assoc,scan,if_neg (by rw[pm h n];exact h),pm h n]
theorem aK {f:Nat->Int} {k n:Nat} {s:Int} (h:scan f k=0) (hs:f k=s) (h2:s≠0) (hk:k<n):scan f n=s:=by
 have e:scan f (k+1)=s:=by unfold scan;rw[if_pos h];exact hs
 obtain⟨m,rfl⟩:∃m,n=k+1+m:=⟨n-(k+1),by omega⟩
 rw[pm (by rw[e];exact h2),e]
theorem eC {f:Nat->Int}:∀{n:Nat},scan f n=0↔∀j,j<n->f j=0
 |0=>⟨fun _ j h=>by omega,fun _=>rfl⟩
 |n+1=>by
  constructor
  .intro h j hj;by_cases h0:scan f n=0
   .have e:=h;unfold scan at e;rw[if_pos h0]at e;by_cases ej:j=n
    .subst ej;exact e
    .exact eC.1 h0 j (by omega)
   .have e:=h;unfold scan at e;rw[if_neg h0]at e;exact absurd e h0
  .intro h;exact fC (eC.2 fun j hj=>h j (by omega)) (h n (by omega))
def fD (n:Int) (l:List Int) (k:Nat):Int:=match l[k]? with
 |none=>0
 |some y=>if 0<=y/\y<=n-1 then(if 0<k then(match l[k-1]? with|some z=>if y<=z then 7 else 0|none=>0)else 0)else 6
def iy (l:List Int) (n:Int):Int:=scan (fD n l) l.length
theorem Ot {l:List Int} {k:Nat} (hy:l[k]?=some y) (h:¬(0<=y/\y<=n-1)):fD n l k=6:=by unfold fD;rw[hy];simp only;rw[if_neg h]
theorem Ou {z:Int} {l:List Int} {k:Nat} (hy:l[k]?=some y) (h:0<=y/\y<=n-1) (hk:0<k) (hz:l[k-1]?=some z) (h2:y<=z):fD n l k=7:=by unfold fD;rw[hy];simp only;rw[if_pos h,if_pos hk,hz];simp only;rw[if_pos h2]
theorem zq {l:List Int} {k:Nat} (hy:l[k]?=some y) (h:0<=y/\y<=n-1) (h2:∀z,0<k->l[k-1]?=some z->z<y):fD n l k=0:=by
 unfold fD;rw[hy];simp only;rw[if_pos h];by_cases hk:0<k
 .rw[if_pos hk];cases hz:l[k-1]? with
  |none=>rfl
  |some z=>
   simp only;rw[if_neg (by have:=h2 z hk hz;omega)]
 .rw[if_neg hk]
theorem pY {l:List Int}:iy l n=0↔I4 l n:=by
 unfold iy;rw[eC];constructor
 .intro h j y hj hy;have h1:=h j hj;unfold fD at h1;rw[hy]at h1;simp only at h1;split at h1
  .rename_i hr;refine⟨hr.1,hr.2,fun z hj0 hz=>?_⟩;rw[if_pos hj0,hz]at h1;simp only at h1;split at h1
   .cases h1
   .omega
  .cases h1
 .intro h j hj;have hy:l[j]?=some l[j]:=List.getElem?_eq_getElem hj;have h1:=h j _ hj hy;exact zq hy ⟨h1.1,h1.2.1⟩ h1.2.2
open Classical in
noncomputable def bO (p:Int) (l:List Part) (k:Nat):Int:=match l[k]? with
 |none=>0
 |some x=>if ji x.name then(if∃i y,i<k/\l[i]?=some y/\y.name=x.name then 5 else
   if(0<=x.cost/\x.cost<=99)/\(0<=x.fN/\x.fN<=3)/\(0<=x.lo/\x.lo<=x.hi/\x.hi<=20)/\x.hi-x.lo<4 then iy x.fits p else 1)else 4
noncomputable def bc (p:Int) (l:List Part):Int:=if 1<=l.length/\l.length<=5 then scan (bO p l) l.length else 2
section
variable {p:Int} {l:List Part} {k:Nat} {x:Part}
theorem I7 (hx:l[k]?=some x) (h:¬ji x.name):bO p l k=4:=by unfold bO;rw[hx];simp only;rw[if_neg h]
theorem I8 (hx:l[k]?=some x) (h:ji x.name) {i:Nat} {y:Part} (hi:i<k) (hy:l[i]?=some y) (hn:y.name=x.name):bO p l k=5:=by
 unfold bO;rw[hx];simp only;rw[if_pos h,if_pos ⟨i,y,hi,hy,hn⟩]
theorem mQ (hx:l[k]?=some x) (h:ji x.name) (hn:fW l x.name k) (h2:¬((0<=x.cost/\x.cost<=99)/\(0<=x.fN/\x.fN<=3)/\(0<=x.lo/\x.lo<=x.hi/\x.hi<=20)/\x.hi-x.lo<4)):bO p l k=1:=by
 unfold bO;rw[hx];simp only;rw[if_pos h,if_neg (fun⟨i,y,hi,hy,e⟩=>hn i y hi hy e),if_neg h2]
theorem wJ (hx:l[k]?=some x) (h:ji x.name) (hn:fW l x.name k) (h2:(0<=x.cost/\x.cost<=99)/\(0<=x.fN/\x.fN<=3)/\(0<=x.lo/\x.lo<=x.hi/\x.hi<=20)/\x.hi-x.lo<4):bO p l k=iy x.fits p:=by
 unfold bO;rw[hx];simp only;rw[if_pos h,if_neg (fun⟨i,y,hi,hy,e⟩=>hn i y hi hy e),if_pos h2]
theorem sv (hm:1<=l.length/\l.length<=5):bc p l=scan (bO p l) l.length:=by unfold bc;rw[if_pos hm]
end
theorem zr (w:World) (v:Value) (l:List Int) (n:Int) (hn:0<=n/\n<=1000) (h:an w v l):Calls ZP 112 #[v,.int .i64 n] w (U6 w fun s=>s=iy l n):=by
 obtain⟨a,c,h1,h2⟩:=h;have H:Hid (bH w v l.length a c/\_):=⟨h1,h2⟩
 obtain⟨rfl,l1,m1,n1,r1⟩:=h1;unfold maxLen at m1;clear h2 n1 r1;go_enter ZF112,Tryz.ntmps112
 go_wp2
 go_loopw [5] (fun i w1=>∃k:Nat,k<=l.length/\Hid (scan (fD n l) k=0)/\i=.int .i64 k/\∃n,w1=w.drewN n) (fun i _=>l.length-(intOf i).toNat)
 case atStart=>exact⟨0,Nat.zero_le _,rfl,rfl,0,rfl⟩
 case round=>
  obtain⟨k,hk,hN,rfl,n0,rfl⟩:=hrel;by_cases az:k<l.length
  .obtain⟨⟨blk,off,sp⟩,y,rfl,hy,y0⟩:=H.o.1.elem H.o.2 az;obtain rfl:sp=none:=y0.1;have g0:=y0.2;simp only at g0;have HY:=hid hy;have hw:wrap64 (n-1)=n-1:=by unfold wrap64;omega
   clear y0 hy;by_cases e1:0<=y/\y<=n-1
   .obtain⟨e1,e2⟩:=e1;by_cases rk:0<k
    .obtain⟨b',z,wK,hz,z0⟩:=H.o.1.elem H.o.2 (show k-1<l.length by omega);cases wK;have g1:=z0.2;simp only at g1;go_wp2_with(go_at_call 68;refine(ls _ _ _ _).mono ?_;rintro e w' ⟨rfl,rfl⟩)
     have oA:wrap64 ((k:Int)-1)=((k-1:Nat):Int):=by unfold wrap64;omega
     have nL:(0:Int)<(k:Int):=by omega
     have nO:((k-1:Nat):Int)<(l.length:Int):=by omega
     have oY:(k:Int)<(l.length:Int):=by omega
     by_cases Xe:y<=z
     .go_quiet (fail)
      go_wp2
      go_ret;exact⟨7,_,rfl,(aK hN.o (Ou HY.o ⟨e1,e2⟩ rk hz Xe) (by decide) az).symm,by simp only[World.drewN_drewN];rfl⟩
     .go_quiet (fail)
      go_wp2
      go_round
      case rel=>exact⟨k+1,by omega,fC hN.o (zq HY.o ⟨e1,e2⟩ (fun z' _ h=>by rw[hz]at h;cases h;omega)),by go_num,_,rfl⟩
      case measure=>simp[intOf];omega
    .have nL:¬(0:Int)<(k:Int):=by omega
     have oY:(k:Int)<(l.length:Int):=by omega
     go_wp2_with(go_at_call 68;refine(ls _ _ _ _).mono ?_;rintro e w' ⟨rfl,rfl⟩)
     go_quiet (fail)
     go_wp2
     go_round
     case rel=>exact⟨k+1,by omega,fC hN.o (zq HY.o ⟨e1,e2⟩ (fun z' h _=>by omega)),by go_num,_,rfl⟩
     case measure=>simp[intOf];omega
   .have e2:(decide (0<=y)&&decide (y<=n-1))=false:=by
     cases hd:(decide (0<=y)&&decide (y<=n-1))with
     |false=>rfl
     |true=>exact absurd (by simpa using hd) e1
    have E1:=hid e1;clear e1;go_wp2_with(go_at_call 68;refine(ls _ _ _ _).mono ?_;rintro e w' ⟨rfl,rfl⟩)
    go_ret;exact⟨6,_,rfl,(aK hN.o (Ot HY.o E1.o) (by decide) az).symm,rfl⟩
  .have e:k=l.length:=by omega
   subst e;go_wp2
   go_ret;exact⟨0,_,rfl,hN.o.symm,rfl⟩
theorem qB (w:World) (v:Value) (b:ao) (hb:au w v b) (hs:de b) (hp:1<=b.places/\b.places<=4):
 Calls ZP 70 #[v] w (aW w fun s=>s=bc b.places b.parts):=by
 obtain⟨v2,v3,v4,rfl,⟨a2,c2,h2,f2⟩,h3,h4⟩:=hb;have H2:Hid (bH w v2 b.parts.length a2 c2/\_):=⟨h2,f2⟩
 obtain⟨rfl,l2,m2,n2,r2⟩:=h2;unfold maxLen at m2;clear r2 f2 n2 h3 h4;go_enter ZF70,Tryz.ntmps70
 go_wp2_with(go_at_call 68;refine(MB _ _ _ _).mono ?_;rintro e w' ⟨r,rfl,hr,rfl⟩;cases r)
 .go_ret;exact aW.mk (r:=2) (by unfold bc;rw[if_neg (fun h=>hr.f (by omega))]) ((Below.refl _ _).alloc (Nat.le_refl _) _)
 have hm:=hr.t;have mS:Hid (bc b.places b.parts=scan (bO b.places b.parts) b.parts.length):=sv (by omega);go_loopw [3] (fun i w1=>∃k:Nat,k<=b.parts.length/\Hid (scan (bO b.places b.parts) k=0)/\i=.int .i64 k/\Hid (Below (w.heap.size+1) (w.alloc (.cells #[.int .i64 b.ak,.int .i64 b.places,.slice a2 b.parts.length c2,v3,v4] 26)) w1)) (fun i _=>b.parts.length-(intOf i).toNat)
 case atStart=>exact⟨0,Nat.zero_le _,rfl,rfl,Below.refl _ _⟩
 case round=>
  obtain⟨k,hk,hN,rfl,hB⟩:=hrel;have g1:=boxed hB.o 1;have g2:=boxed hB.o 2;simp only[List.getElem?_toArray,List.getElem?_cons_succ,List.getElem?_cons_zero]at g1 g2;by_cases az:k<b.parts.length
  .obtain⟨⟨blk,off,sp⟩,x,rfl,hx,x0,x1,x2,x3,x4,vf,x5,x6⟩:=H2.o.1.elem H2.o.2 az;obtain rfl:sp=none:=x0.1;have x7:=x6.later (Kp.boxed hB.o);obtain⟨af,cf,hf,_⟩:=x6;obtain⟨rfl,_,_,_,_⟩:=hf;have HX:Hid (b.parts[k]?=some x/\an wr (.slice af x.fits.length cf) x.fits):=⟨hx,x7⟩
   have bX:x.name.size<=maxLen:=by have:=hs k x az hx;unfold maxLen;omega
   have y0:=(x0.later (Kp.boxed hB.o)).2;have y1:=(x1.later (Kp.boxed hB.o)).2;have y2:=(x2.later (Kp.boxed hB.o)).2;have y3:=(x3.later (Kp.boxed hB.o)).2;have y4:=(x4.later (Kp.boxed hB.o)).2;have y5:=(x5.later (Kp.boxed hB.o)).2;simp only[<-Nat.add_assoc]at y0 y1 y2 y3 y4 y5;have li:w.heap.size+1<=wr.heap.size:=by have:=hB.o.size;simp at this;omega
   have m8:blk<w.heap.size:=x0.lt;have g1':∀o o2 n,(((wr.alloc o).drewN n).alloc o2).cell? ⟨w.heap.size,1,none⟩=some (.int .i64 b.places):=fun o o2 n=>(I6 (by show w.heap.size<_;omega) o o2 n).trans g1;have Tk:∀o,(wr.alloc o).cell? ⟨w.heap.size,2,none⟩=some (.slice (some ⟨blk,off,none⟩) b.parts.length c2):=fun o=>(dI (by show w.heap.size<_;omega) o).trans g2;clear x0 x1 x2 x3 x4 x5 x7 hx;go_wp2_with(go_at_call 111;refine(Ch _ _ bX).mono ?_;rintro e w' ⟨r,rfl,hr,rfl⟩;cases r)
   .go_ret;exact aW.mk (r:=4) (mS.o.trans (aK hN.o (I7 HX.o.1 hr.f) (by decide) az)).symm ((Below.boxed hB.o).alloc (by have:=hB.o.size;simp at this;omega) _)
   have HR:Hid (ji x.name):=hr.t;have wL:=hid az;clear hr;go_loopw [5] (fun i w2=>∃m:Nat,m<=k/\Hid (fW b.parts x.name m)/\i=.int .i64 m/\∃n,w2=(wr.alloc (.cells #[.string x.name,.int .i64 x.cost,.int .i64 x.fN,.int .i64 x.lo,.int .i64 x.hi,.slice af x.fits.length cf] 48)).drewN n) (fun i _=>k-(intOf i).toNat)
   case atStart=>exact⟨0,Nat.zero_le _,.zero _ _,rfl,0,rfl⟩
   case round=>
    obtain⟨m,hm2,hM,rfl,n0,rfl⟩:=hrel;by_cases il:m<k
    .obtain⟨b',y,wK,hy,z0,z5⟩:=H2.o.1.elem H2.o.2 (show m<b.parts.length by have:=wL.o;omega);cases wK;have q0:=((z0.later (Kp.boxed hB.o)).later (Kp.alloc wr (.cells #[.string x.name,.int .i64 x.cost,.int .i64 x.fN,.int .i64 x.lo,.int .i64 x.hi,.slice af x.fits.length cf] 48))).2;simp only at q0;have HY:=hid hy;have U7:(m:Int)<(k:Int):=by omega
     have sw:(m:Int)<(b.parts.length:Int):=by omega
     clear hy z0 z5;go_wp2
     go_quiet (fail)
     go_wp2
     .rename_i Kk;have e:y.name=x.name:=DY Kk;go_ret;exact aW.mk (r:=5) (mS.o.trans (aK hN.o (I8 HX.o.1 HR.o il HY.o e) (by decide) wL.o)).symm (Below.drewN (Below.one (Below.boxed hB.o) (by omega) _ _) _)
     .rename_i Kk;have e:Hid (y.name≠x.name):=MC Kk;clear Kk;go_round
      case rel=>exact⟨m+1,by omega,hM.o.succ HY.o e.o,by go_num,_,rfl⟩
      case measure=>simp[intOf];omega
    .have HM:Hid (fW b.parts x.name k):=(by have e:m=k:=by omega
                                            subst e;exact hM.o)
     have x6':an ((((wr.alloc (.cells #[.string x.name,.int .i64 x.cost,.int .i64 x.fN,.int .i64 x.lo,.int .i64 x.hi,.slice af x.fits.length cf] 48)).drewN n0).alloc (.cells #[.int .i64 x.lo,.int .i64 x.hi] 37))) (.slice af x.fits.length cf) x.fits:=
      HX.o.2.later (Kp.two wr _ _ _)
     have Kj:0<=b.places/\b.places<=1000:=by omega
     go_wp2_with(first
      |(go_at_call 68;refine(MB _ _ _ _).mono ?_;rintro e w' ⟨r,rfl,hr,rfl⟩;cases r)
      |(go_at_call 72;refine(sq _ _ _ _ _).mono ?_;rintro e w' ⟨r,rfl,hr,rfl⟩;cases r)
      |(go_at_call 112;refine(zr _ _ _ _ Kj x6').mono ?_;rintro e w' ⟨r,n1,rfl,qu,rfl⟩;by_cases xE:r=0))
     .go_ret;exact aW.mk (r:=1) (mS.o.trans (aK hN.o (mQ HX.o.1 HR.o HM.o fun h=>hr.f h.1) (by decide) wL.o)).symm (Below.one (Below.boxed hB.o) (by omega) _ _)
     .go_ret;exact aW.mk (r:=1) (mS.o.trans (aK hN.o (mQ HX.o.1 HR.o HM.o fun h=>hr.f h.2.1) (by decide) wL.o)).symm (Below.one (Below.boxed hB.o) (by omega) _ _)
     .go_ret;exact aW.mk (r:=1) (mS.o.trans (aK hN.o (mQ HX.o.1 HR.o HM.o fun h=>hr.f h.2.2.1) (by decide) wL.o)).symm (Below.two (Below.boxed hB.o) (by omega) _ _ _ 0)
     .rename_i QF;have ht:=hr.t;have e:¬x.hi-x.lo<4:=by unfold wrap64 at QF;omega
      go_ret;exact aW.mk (r:=1) (mS.o.trans (aK hN.o (mQ HX.o.1 HR.o HM.o fun h=>e h.2.2.2) (by decide) wL.o)).symm (Below.two (Below.boxed hB.o) (by omega) _ _ _ 0)
     .rename_i QG QH QF _;have ht:=hr.t;have e:x.hi-x.lo<4:=by unfold wrap64 at QF;omega
      have HK:Hid (bO b.places b.parts k=0):=((wJ HX.o.1 HR.o HM.o ⟨QG.t,QH.t,ht,e⟩).trans (qu.symm.trans xE):bO b.places b.parts k=0)
      clear e ht QF hr qu;go_round
      case rel=>exact⟨k+1,by omega,fC hN.o HK.o,by go_num,Below.two hB.o (by omega) _ _ _ _⟩
      case measure=>simp[intOf];omega
     .go_ret;exact aW.mk (by rename_i QG QH QF _;have ht:=hr.t;have e:x.hi-x.lo<4:=(by unfold wrap64 at QF;omega);exact(mS.o.trans (aK hN.o (wJ HX.o.1 HR.o HM.o ⟨QG.t,QH.t,ht,e⟩) (by rw[<-qu];exact xE) wL.o)).symm) (Below.two (Below.boxed hB.o) (by omega) _ _ _ _)
  .go_wp2
   go_ret;have e:k=b.parts.length:=by omega
   subst e;exact aW.mk (r:=0) (mS.o.trans hN.o).symm (Below.boxed hB.o)
end Go.Proofs.Cz
