/- A part of the proof that BuildWhy returns true. Conditions: none. -/
import Derived.Test.YthmokljbbkcjdaaGreatDoorT09
import Derived.WalkSpells
import Derived.WalkLawsBesides
import Derived.Deep.QuietTactic
import Derived.BigQuiet
import Derived.Deep.LoopGhost
set_option linter.unusedVariables false
set_option linter.unusedSimpArgs false
section
namespace Go.Proofs.Cz
open Go.RowKit
def RetB (w:World) (P:Bool→Prop) (e:Ending) (w':World):Prop:=(∃r,e=.returned (.bool r)∧P r)∧Below w.heap.size w w'
theorem RetB.mk {w w':World} {P:Bool→Prop} {r:Bool} (h:P r) (hb:Below w.heap.size w w'):RetB w P (.returned (.bool r)) w':=⟨⟨r,rfl,h⟩,hb⟩
theorem Kp.alloc (w:World) (o:Obj):Kp w (w.alloc o):=fun k hk=>Below.heap_alloc w o k hk
theorem SlAt.elem {α:Type} {w:World} {v:Value} {l:List α} {a:Option Addr} {cap:Nat} (h:SlAt w v l.length a cap) {p:Addr→Nat→α→Prop} (hp:∀b,a=some b→∀j x,l[j]?=some x→p b j x) {k:Nat} (hk:k<l.length):
 ∃b x,a=some b∧l[k]?=some x∧p b k x:=by
 cases a with
 |none=>have:=h.nil rfl;have:=h.le;omega
 |some b=>exact⟨b,l[k],rfl,List.getElem?_eq_getElem hk,hp b rfl k _ (List.getElem?_eq_getElem hk)⟩
def ShortTo (l:List Part) (k:Nat):Prop:=∀j x,j<k→l[j]?=some x→x.name.size≤100
theorem ShortTo.succ {l:List Part} {x:Part} {k:Nat} (h:ShortTo l k) (hx:l[k]?=some x) (h1:x.name.size≤100):ShortTo l (k+1):=fun j y hj hy=>by
 by_cases e:j=k
 ·subst e;rw[hx]at hy;cases hy;exact h1
 ·exact h j y (by omega) hy
abbrev Short (b:Book):Prop:=ShortTo b.parts b.parts.length
set_option maxHeartbeats 1000000 in
theorem great_any (w:World) (v:Value) (b:Book) (hb:BookAt w v b):
 Calls Tz.prog 40 #[v] w (RetB w fun r=>r=false→Short b):=by
 obtain⟨v2,v3,v4,rfl,⟨a2,c2,h2,f2⟩,⟨a3,c3,h3,f3⟩,⟨a4,c4,h4,f4⟩⟩:=hb
 have H2:Hid (SlAt w v2 b.parts.length a2 c2∧_):=⟨h2,f2⟩
 have H4:Hid (SlAt w v4 b.trials.length a4 c4∧_):=⟨h4,f4⟩
 obtain⟨rfl,l2,m2,n2,r2⟩:=h2
 obtain⟨rfl,l3,m3,n3,r3⟩:=h3
 obtain⟨rfl,l4,m4,n4,r4⟩:=h4
 unfold maxLen at m2 m3 m4
 clear r2 r3 r4 f2 f3 f4 n2 n3 n4
 go_enter Tz.func40,Tz.ntmps40
 go_wp2
 all_goals try(go_ret;refine RetB.mk (fun h=>by cases h) ((Below.refl _ _).alloc (Nat.le_refl _) _))
 go_loop [3] (fun i=>∃k:Nat,k≤b.parts.length∧Hid (ShortTo b.parts k)∧i=.int .i64 k) (fun i=>b.parts.length-(intOf i).toNat)
 case atStart=>exact⟨0,Nat.zero_le _,(fun j x h=>by omega),rfl⟩
 case round=>
  obtain⟨k,hk,hN,rfl⟩:=hrel
  by_cases hlt:k<b.parts.length
  ·obtain⟨⟨blk,off,sp⟩,x,rfl,hx,x0,x1,x2,x3,x4,vf,x5,af,cf,hf,_⟩:=H2.out.1.elem H2.out.2 hlt
   obtain rfl:sp=none:=x0.1
   obtain⟨rfl,lf,mf,_,_⟩:=hf
   have y0:=(x0.later (Kp.alloc w (.cells #[.int .i64 b.beat,.int .i64 b.places,.slice (some ⟨blk,off,none⟩) b.parts.length c2,.slice a3 b.apart.length c3,.slice a4 b.trials.length c4] 26))).2
   have y5:=(x5.later (Kp.alloc w (.cells #[.int .i64 b.beat,.int .i64 b.places,.slice (some ⟨blk,off,none⟩) b.parts.length c2,.slice a3 b.apart.length c3,.slice a4 b.trials.length c4] 26))).2
   simp only[←Nat.add_assoc]at y0 y5
   clear x0 x1 x2 x3 x4 x5
   have HX:Hid (b.parts[k]?=some x):=hx
   go_wp2
   all_goals try(go_ret;refine RetB.mk (fun h=>by cases h) ((Below.refl _ _).alloc (Nat.le_refl _) _))
   go_round
   case rel=>exact⟨k+1,by omega,hN.out.succ HX.out (by omega),by go_num⟩
   case measure=>simp[intOf];omega
  ·have hN:Hid (Short b):=by have e:k=b.parts.length:=by omega
                             subst e;exact hN.out
   go_wp2
   go_loop [4] (fun i=>∃k:Nat,k≤b.trials.length∧i=.int .i64 k) (fun i=>b.trials.length-(intOf i).toNat)
   case atStart=>exact⟨0,Nat.zero_le _,rfl⟩
   case round=>
    obtain⟨k,hk,rfl⟩:=hrel
    by_cases hlt:k<b.trials.length
    ·obtain⟨⟨blk,off,sp⟩,x,rfl,hx,⟨vf,x0,af,cf,hf,_⟩,_⟩:=H4.out.1.elem H4.out.2 hlt
     obtain rfl:sp=none:=x0.1
     obtain⟨rfl,lf,mf,_,_⟩:=hf
     have y0:=(x0.later (Kp.alloc w (.cells #[.int .i64 b.beat,.int .i64 b.places,.slice a2 b.parts.length c2,.slice a3 b.apart.length c3,.slice (some ⟨blk,off,none⟩) b.trials.length c4] 26))).2
     simp only at y0
     clear x0
     go_wp2
     all_goals try(go_ret;refine RetB.mk (fun h=>by cases h) ((Below.refl _ _).alloc (Nat.le_refl _) _))
     go_round
     case rel=>exact⟨k+1,by omega,by go_num⟩
     case measure=>simp[intOf];omega
    ·go_wp2
     all_goals(go_ret;exact RetB.mk (fun _=>hN.out) ((Below.refl _ _).alloc (Nat.le_refl _) _))
end Go.Proofs.Cz
end
section
namespace Go.Proofs.Cz
open Go.RowKit
def Pure1 (w:World) (v:Value) (e:Ending) (w':World):Prop:=e=.returned v∧w'=w
theorem Pure1.of {w:World} {v:Value} (v':Value) (h:v'=v):Pure1 w v (.returned v') w:=⟨by rw[h],rfl⟩
theorem RetB.eq {w w':World} {P:Bool→Prop} {v:Value} {r:Bool} (h:P r) (hb:Below w.heap.size w w') (e:v=.bool r):RetB w P (.returned v) w':=by subst e;exact .mk h hb
def Tr (r:Bool) (A:Prop):Prop:=r=true↔A
theorem Tr.t {A:Prop} (h:Tr true A):A:=h.1 rfl
theorem Tr.f {A:Prop} (h:Tr false A):¬A:=fun a=>Bool.noConfusion (h.2 a)
theorem Tr.yes {A:Prop} (h:A):Tr true A:=⟨fun _=>h,fun _=>rfl⟩
theorem Tr.no {A:Prop} (h:¬A):Tr false A:=⟨fun h=>Bool.noConfusion h,fun a=>absurd a h⟩
def Pure1B (w:World) (P:Bool→Prop) (e:Ending) (w':World):Prop:=∃r,e=.returned (.bool r)∧P r∧w'=w
def PureA (w:World) (o:Obj) (P:Bool→Prop) (e:Ending) (w':World):Prop:=∃r,e=.returned (.bool r)∧P r∧w'=w.alloc o
def PureI (w:World) (P:Int→Prop) (e:Ending) (w':World):Prop:=∃r n,e=.returned (.int .i64 r)∧P r∧w'=w.drewN n
theorem Pure1B.mk {w:World} {P:Bool→Prop} {r:Bool} (h:P r):Pure1B w P (.returned (.bool r)) w:=⟨r,rfl,h,rfl⟩
set_option maxHeartbeats 1000000 in
theorem inside_any (n a b:Int) (w:World):Calls Tz.prog 75 #[.int .i64 n,.int .i64 a,.int .i64 b] w (Pure1 w (.bool (decide (a≤n)&&decide (n≤b)))):=by
 by_cases h1:a≤n<;>by_cases h2:n≤b
 all_goals
  go_enter Tz.func75,Tz.ntmps75
  go_wp2
  go_ret
  exact⟨by simp[h1,h2],rfl⟩
set_option maxHeartbeats 1000000 in
theorem in_any (n a b:Int) (w:World):Calls Tz.prog 19 #[.int .i64 n,.int .i64 a,.int .i64 b] w (Pure1 w (.bool (decide (a≤n)&&decide (n≤b)))):=by
 by_cases h1:a≤n<;>by_cases h2:n≤b
 all_goals
  go_enter Tz.func19,Tz.ntmps19
  go_wp2
  go_ret
  exact⟨by simp[h1,h2],rfl⟩
set_option maxHeartbeats 1000000 in
theorem letter_any (c:Int) (w:World):Calls Tz.prog 128 #[.int .u8 c] w (Pure1 w (.bool (decide (97≤c)&&decide (c≤122)))):=by
 by_cases h1:97≤c<;>by_cases h2:c≤122
 all_goals
  go_enter Tz.func128,Tz.ntmps128
  go_wp2
  go_ret
  exact⟨by simp[h1,h2],rfl⟩
set_option maxHeartbeats 1000000 in
theorem digit_any (c:Int) (w:World):Calls Tz.prog 129 #[.int .u8 c] w (Pure1 w (.bool (decide (48≤c)&&decide (c≤57)))):=by
 by_cases h1:48≤c<;>by_cases h2:c≤57
 all_goals
  go_enter Tz.func129,Tz.ntmps129
  go_wp2
  go_ret
  exact⟨by simp[h1,h2],rfl⟩
set_option maxHeartbeats 1000000 in
theorem within_any (lo hi a b:Int) (w:World):Calls Tz.prog 87 #[.agg #[.int .i64 lo,.int .i64 hi],.int .i64 a,.int .i64 b] w (PureA w (.cells #[.int .i64 lo,.int .i64 hi] 31) fun r=>Tr r (a≤lo∧lo≤hi∧hi≤b)):=by
 by_cases h1:a≤lo<;>by_cases h2:lo≤hi<;>by_cases h3:hi≤b
 all_goals
  go_enter Tz.func87,Tz.ntmps87
  go_wp2
  go_ret
  exact⟨_,rfl,by unfold Tr;simp[h1,h2,h3],rfl⟩
set_option maxHeartbeats 1000000 in
theorem isSpan_any (lo hi a b m:Int) (hb:0≤a∧b≤1000) (w:World):Calls Tz.prog 70 #[.agg #[.int .i64 lo,.int .i64 hi],.int .i64 a,.int .i64 b,.int .i64 m] w (PureA w (.cells #[.int .i64 lo,.int .i64 hi] 31) fun r=>Tr r (a≤lo∧lo≤hi∧hi≤b∧hi-lo<m)):=by
 by_cases h1:a≤lo<;>by_cases h2:lo≤hi<;>by_cases h3:hi≤b
 all_goals
  go_enter Tz.func70,Tz.ntmps70
  go_wp2
  go_ret
  refine⟨_,rfl,?_,rfl⟩
  unfold Tr
  first
   |(have e:wrap64 (hi-lo)=hi-lo:=by unfold wrap64;omega
     simp[h1,h2,h3,e])
   |(simp[h1,h2,h3];done)
   |(simp[h1,h2,h3];omega)
end Go.Proofs.Cz
end
section
namespace Go.Proofs.Cz
open Go.RowKit
def RetI (w:World) (P:Int→Prop) (e:Ending) (w':World):Prop:=(∃r,e=.returned (.int .i64 r)∧P r)∧Below w.heap.size w w'
theorem RetI.mk {w w':World} {P:Int→Prop} {r:Int} (h:P r) (hb:Below w.heap.size w w'):RetI w P (.returned (.int .i64 r)) w':=⟨⟨r,rfl,h⟩,hb⟩
def NoneOf (l:List Int) (x:Int) (k:Nat):Prop:=∀j y,j<k→l[j]?=some y→y≠x
theorem NoneOf.zero (l:List Int) (x:Int):NoneOf l x 0:=fun j y h=>by omega
theorem NoneOf.succ {l:List Int} {x y:Int} {k:Nat} (h:NoneOf l x k) (hy:l[k]?=some y) (hne:y≠x):NoneOf l x (k+1):=fun j z hj hz=>by
 by_cases e:j=k
 ·subst e;rw[hy]at hz;cases hz;exact hne
 ·exact h j z (by omega) hz
theorem NoneOf.all {l:List Int} {x:Int} (h:NoneOf l x l.length):x∉l:=fun hm=>by
 obtain⟨j,hj,rfl⟩:=List.getElem_of_mem hm
 exact h j _ hj (List.getElem?_eq_getElem hj) rfl
set_option maxHeartbeats 1000000 in
theorem has_any (w:World) (v:Value) (l:List Int) (x:Int) (h:IntsAt w v l):Calls Tz.prog 20 #[v,.int .i64 x] w (Pure1 w (.bool (decide (x∈l)))):=by
 obtain⟨a,c,h1,h2⟩:=h
 have H:Hid (SlAt w v l.length a c∧_):=⟨h1,h2⟩
 obtain⟨rfl,l1,m1,n1,r1⟩:=h1
 unfold maxLen at m1
 clear h2 n1 r1
 go_enter Tz.func20,Tz.ntmps20
 go_wp2
 go_loop [5] (fun i=>∃k:Nat,k≤l.length∧Hid (NoneOf l x k)∧i=.int .i64 k) (fun i=>l.length-(intOf i).toNat)
 case atStart=>exact⟨0,Nat.zero_le _,NoneOf.zero l x,rfl⟩
 case round=>
  obtain⟨k,hk,hN,rfl⟩:=hrel
  by_cases hlt:k<l.length
  ·obtain⟨⟨blk,off,sp⟩,y,rfl,hy,y0⟩:=H.out.1.elem H.out.2 hlt
   obtain rfl:sp=none:=y0.1
   have g0:=y0.2
   simp only at g0
   have HY:Hid (l[k]?=some y):=hy
   clear y0 hy
   by_cases e:y=x
   ·go_wp2
    go_ret
    exact Pure1.of (.bool true) (by rw[decide_eq_true (e▸List.mem_of_getElem? HY.out)])
   ·go_wp2
    go_round
    case rel=>exact⟨k+1,by omega,hN.out.succ HY.out e,by go_num⟩
    case measure=>simp[intOf];omega
  ·have e:k=l.length:=by omega
   subst e
   go_wp2
   go_ret
   exact Pure1.of (.bool false) (by rw[decide_eq_false hN.out.all])
def RisingTo (l:List Int) (n:Int) (k:Nat):Prop:=∀j y,j<k→l[j]?=some y→0≤y∧y≤n-1∧∀z,0<j→l[j-1]?=some z→z<y
theorem RisingTo.zero (l:List Int) (n:Int):RisingTo l n 0:=fun j y h=>by omega
theorem RisingTo.succ {l:List Int} {n y:Int} {k:Nat} (h:RisingTo l n k) (hy:l[k]?=some y) (h1:0≤y∧y≤n-1) (h2:∀z,0<k→l[k-1]?=some z→z<y):RisingTo l n (k+1):=fun j z hj hz=>by
 by_cases e:j=k
 ·subst e;rw[hy]at hz;cases hz;exact⟨h1.1,h1.2,h2⟩
 ·exact h j z (by omega) hz
abbrev Rising (l:List Int) (n:Int):Prop:=RisingTo l n l.length
theorem Below.drewN {B:Nat} {a w:World} (h:Below B a w) (n:Nat):Below B a (w.drewN n):=⟨h.os,h.tape,h.output,h.size,h.block⟩
set_option maxHeartbeats 4000000 in
theorem rising_any (w:World) (v:Value) (l:List Int) (n:Int) (hn:0≤n∧n≤1000) (h:IntsAt w v l):Calls Tz.prog 13 #[v,.int .i64 n] w (PureI w fun s=>s=0↔Rising l n):=by
 obtain⟨a,c,h1,h2⟩:=h
 have H:Hid (SlAt w v l.length a c∧_):=⟨h1,h2⟩
 obtain⟨rfl,l1,m1,n1,r1⟩:=h1
 unfold maxLen at m1
 clear h2 n1 r1
 go_enter Tz.func13,Tz.ntmps13
 go_wp2
 go_loopw [5] (fun i w1=>∃k:Nat,k≤l.length∧Hid (RisingTo l n k)∧i=.int .i64 k∧∃n,w1=w.drewN n) (fun i _=>l.length-(intOf i).toNat)
 case atStart=>exact⟨0,Nat.zero_le _,RisingTo.zero l n,rfl,0,rfl⟩
 case round=>
  obtain⟨k,hk,hN,rfl,n0,rfl⟩:=hrel
  by_cases hlt:k<l.length
  ·obtain⟨⟨blk,off,sp⟩,y,rfl,hy,y0⟩:=H.out.1.elem H.out.2 hlt
   obtain rfl:sp=none:=y0.1
   have g0:=y0.2
   simp only at g0
   have HY:Hid (l[k]?=some y):=hy
   have hw:wrap64 (n-1)=n-1:=by unfold wrap64;omega
   clear y0 hy
   by_cases e1:0≤y∧y≤n-1
   ·obtain⟨e1,e2⟩:=e1
    by_cases hk0:0<k
    ·obtain⟨b',z,hb',hz,z0⟩:=H.out.1.elem H.out.2 (show k-1<l.length by omega)
     cases hb'
     have g1:=z0.2
     simp only at g1
     go_wp2_with(go_at_call 19;refine(in_any _ _ _ _).mono ?_;rintro e w' ⟨rfl,rfl⟩)
     have hk1:wrap64 ((k:Int)-1)=((k-1:Nat):Int):=by unfold wrap64;omega
     have hk2:(0:Int)<(k:Int):=by omega
     have hk3:((k-1:Nat):Int)<(l.length:Int):=by omega
     have hk4:(k:Int)<(l.length:Int):=by omega
     by_cases hzy:y≤z
     ·go_quiet (fail)
      go_wp2
      go_ret
      refine⟨7,_,rfl,⟨(fun h=>by cases h),fun h=>?_⟩,by simp only[World.drewN_drewN];rfl⟩
      have:=(h k y hlt HY.out).2.2 z hk0 hz
      omega
     ·go_quiet (fail)
      go_wp2
      go_round
      case rel=>exact⟨k+1,by omega,hN.out.succ HY.out ⟨e1,e2⟩ (fun z' _ h=>by rw[hz]at h;cases h;omega),by go_num,_,rfl⟩
      case measure=>simp[intOf];omega
    ·have hk2:¬(0:Int)<(k:Int):=by omega
     have hk4:(k:Int)<(l.length:Int):=by omega
     go_wp2_with(go_at_call 19;refine(in_any _ _ _ _).mono ?_;rintro e w' ⟨rfl,rfl⟩)
     go_quiet (fail)
     go_wp2
     go_round
     case rel=>exact⟨k+1,by omega,hN.out.succ HY.out ⟨e1,e2⟩ (fun z' h _=>by omega),by go_num,_,rfl⟩
     case measure=>simp[intOf];omega
   ·have e2:(decide (0≤y)&&decide (y≤n-1))=false:=by
     cases hd:(decide (0≤y)&&decide (y≤n-1))with
     |false=>rfl
     |true=>exact absurd (by simpa using hd) e1
    have E1:Hid (¬(0≤y∧y≤n-1)):=e1
    clear e1
    go_wp2_with(go_at_call 19;refine(in_any _ _ _ _).mono ?_;rintro e w' ⟨rfl,rfl⟩)
    go_ret
    refine⟨6,_,rfl,⟨(fun h=>by cases h),fun h=>?_⟩,rfl⟩
    have:=h k y hlt HY.out
    exact absurd ⟨this.1,this.2.1⟩ E1.out
  ·have e:k=l.length:=by omega
   subst e
   go_wp2
   go_ret
   exact⟨0,_,rfl,⟨fun _=>hN.out,fun _=>rfl⟩,rfl⟩
end Go.Proofs.Cz
end
section
namespace Go.Proofs.Cz
open Go.RowKit
def Letter (c:Int):Prop:=97≤c∧c≤122
def Digit (c:Int):Prop:=48≤c∧c≤57
def NameTo (s:ByteArray) (k:Nat):Prop:=∀j (hj:j<s.size),j<k→Letter (s[j].toNat)∨0<j∧Digit (s[j].toNat)
def NameOk (s:ByteArray):Prop:=1≤s.size∧s.size≤10∧NameTo s s.size
theorem NameTo.succ {s:ByteArray} {k:Nat} (h:NameTo s k) (hk:k<s.size) (h1:Letter (s[k].toNat)∨0<k∧Digit (s[k].toNat)):NameTo s (k+1):=fun j hj hj2=>by
 by_cases e:j=k
 ·subst e;exact h1
 ·exact h j hj (by omega)
theorem letter_b (w:World) (c:Int):Calls Tz.prog 128 #[.int .u8 c] w (Pure1B w fun r=>Tr r (Letter c)):=(letter_any c w).mono fun _ _ h=>⟨_,h.1,(by unfold Tr;simp[Letter]),h.2⟩
theorem digit_b (w:World) (c:Int):Calls Tz.prog 129 #[.int .u8 c] w (Pure1B w fun r=>Tr r (Digit c)):=(digit_any c w).mono fun _ _ h=>⟨_,h.1,(by unfold Tr;simp[Digit]),h.2⟩
theorem in_b (w:World) (n a b:Int):Calls Tz.prog 19 #[.int .i64 n,.int .i64 a,.int .i64 b] w (Pure1B w fun r=>Tr r (a≤n∧n≤b)):=(in_any n a b w).mono fun _ _ h=>⟨_,h.1,(by unfold Tr;simp),h.2⟩
theorem inside_b (w:World) (n a b:Int):Calls Tz.prog 75 #[.int .i64 n,.int .i64 a,.int .i64 b] w (Pure1B w fun r=>Tr r (a≤n∧n≤b)):=(inside_any n a b w).mono fun _ _ h=>⟨_,h.1,(by unfold Tr;simp),h.2⟩
set_option maxHeartbeats 1000000 in
theorem isName_any (w:World) (s:ByteArray) (hs:s.size≤maxLen):Calls Tz.prog 109 #[.string s] w (Pure1B w fun r=>Tr r (NameOk s)):=by
 unfold maxLen at hs
 go_enter Tz.func109,Tz.ntmps109
 by_cases h1:(s.size:Int)<1
 ·go_wp2
  go_ret
  exact Pure1B.mk (.no fun h=>by have:=h.1;omega)
 by_cases h2:(s.size:Int)>10
 ·go_wp2
  go_ret
  exact Pure1B.mk (.no fun h=>by have:=h.2.1;omega)
 go_wp2
 go_loop [3] (fun i=>∃k:Nat,k≤s.size∧Hid (NameTo s k)∧i=.int .i64 k) (fun i=>s.size-(intOf i).toNat)
 case atStart=>exact⟨0,Nat.zero_le _,(fun j _ h=>by omega),rfl⟩
 case round=>
  obtain⟨k,hk,hN,rfl⟩:=hrel
  by_cases hlt:k<s.size
  ·have HL:Hid (k<s.size):=hlt
   by_cases hk0:(k:Int)=0
   ·have hk1:k=0:=by omega
    go_wp2_with(go_at_call 128;refine(letter_b _ _).mono ?_;rintro e w' ⟨r,rfl,hr,rfl⟩;cases r)
    ·go_ret
     refine Pure1B.mk (.no fun h=>?_)
     rcases h.2.2 0 (by omega) (by omega)with h|h
     ·exact hr.f h
     ·omega
    ·go_round
     case rel=>subst hk1;exact⟨0+1,by omega,hN.out.succ HL.out (.inl hr.t),by go_num⟩
     case measure=>simp[intOf];omega
   ·go_wp2_with(first|(go_at_call 128;refine(letter_b _ _).mono ?_;rintro e w' ⟨r,rfl,hr,rfl⟩;cases r)|(go_at_call 129;refine(digit_b _ _).mono ?_;rintro e w' ⟨r,rfl,hr2,rfl⟩;cases r))
    ·go_ret
     refine Pure1B.mk (.no fun h=>?_)
     rcases h.2.2 k (by omega) (by omega)with h|h
     ·exact hr.f h
     ·exact hr2.f h.2
    ·go_round
     case rel=>exact⟨k+1,by omega,hN.out.succ HL.out (.inr ⟨by omega,hr2.t⟩),by go_num⟩
     case measure=>simp[intOf];omega
    ·go_round
     case rel=>exact⟨k+1,by omega,hN.out.succ HL.out (.inl hr.t),by go_num⟩
     case measure=>simp[intOf];omega
  ·obtain rfl:k=s.size:=by omega
   go_wp2
   go_ret
   refine Pure1B.mk (.yes ⟨by omega,by omega,hN.out⟩)
end Go.Proofs.Cz
end
section
namespace Go.Proofs.Cz
open Go.RowKit
structure PartOk (places:Int) (x:Part):Prop where
 name:NameOk x.name
 cost:0≤x.cost∧x.cost≤99
 stock:0≤x.stock∧x.stock≤3
 time:0≤x.lo∧x.lo≤x.hi∧x.hi≤20
 wide:x.hi-x.lo<4
 rise:Rising x.fits places
def PartsTo (places:Int) (l:List Part) (k:Nat):Prop:=∀j x,j<k→l[j]?=some x→PartOk places x∧∀i y,i<j→l[i]?=some y→y.name≠x.name
theorem PartsTo.zero (p:Int) (l:List Part):PartsTo p l 0:=fun j x h=>by omega
theorem PartsTo.succ {p:Int} {l:List Part} {x:Part} {k:Nat} (h:PartsTo p l k) (hx:l[k]?=some x) (h1:PartOk p x) (h2:∀i y,i<k→l[i]?=some y→y.name≠x.name):PartsTo p l (k+1):=fun j y hj hy=>by
 by_cases e:j=k
 ·subst e;rw[hx]at hy;cases hy;exact⟨h1,h2⟩
 ·exact h j y (by omega) hy
structure PartsOk (b:Book):Prop where
 many:1≤b.parts.length∧b.parts.length≤5
 all:PartsTo b.places b.parts b.parts.length
def NoName (l:List Part) (s:ByteArray) (k:Nat):Prop:=∀j y,j<k→l[j]?=some y→y.name≠s
theorem NoName.zero (l:List Part) (s:ByteArray):NoName l s 0:=fun j y h=>by omega
theorem NoName.succ {l:List Part} {s:ByteArray} {x:Part} {k:Nat} (h:NoName l s k) (hx:l[k]?=some x) (hne:x.name≠s):NoName l s (k+1):=fun j y hj hy=>by
 by_cases e:j=k
 ·subst e;rw[hx]at hy;cases hy;exact hne
 ·exact h j y (by omega) hy
theorem boxed {w w1:World} {cs:Array Value} {t:Nat} (h:Below (w.heap.size+1) (w.alloc (.cells cs t)) w1) (k:Nat):w1.cell? ⟨w.heap.size,k,none⟩=cs[k]?:=by
 have:=h.block w.heap.size (by omega)
 have h2:w1.heap[w.heap.size]?=some (.cells cs t):=this.trans (by show(w.heap.push _)[w.heap.size]?=_;simp)
 simp only[World.cell?,h2]
 rfl
theorem cell_on {w:World} {a:Addr} (h:a.block<w.heap.size) (o:Obj):(w.alloc o).cell? a=w.cell? a:=World.cell?_of_block (Kp.alloc w o _ h)
theorem cell_on2 {w:World} {a:Addr} (h:a.block<w.heap.size) (o o2:Obj) (n:Nat):(((w.alloc o).drewN n).alloc o2).cell? a=w.cell? a:=(cell_on (by simp;omega) o2).trans (cell_on h o)
theorem Kp.two (w:World) (o o2:Obj) (n:Nat):Kp w (((w.alloc o).drewN n).alloc o2):=fun k hk=>(Kp.alloc ((w.alloc o).drewN n) o2 k (by simp;omega)).trans (Kp.alloc w o k hk)
theorem Below.one {B:Nat} {a w:World} (h:Below B a w) (hs:B≤w.heap.size) (o:Obj) (n:Nat):Below B a ((w.alloc o).drewN n):=Below.drewN (h.alloc hs o) n
theorem Below.two {B:Nat} {a w:World} (h:Below B a w) (hs:B≤w.heap.size) (o o2:Obj) (n m:Nat):Below B a ((((w.alloc o).drewN n).alloc o2).drewN m):=Below.drewN (Below.alloc (Below.one h hs o n) (by simp;omega) o2) m
theorem bad {A:Prop} {r:Int} (h0:r≠0) (h:¬A):r=0↔A:=⟨fun h=>absurd h h0,fun a=>absurd a h⟩
theorem name_eq {a b:ByteArray} (h:(a.toList==b.toList)=true):a=b:=by
 have h2:=eq_of_beq h
 rw[ByteArray.toList_eq,ByteArray.toList_eq]at h2
 cases a;cases b
 simpa using h2
theorem name_ne {a b:ByteArray} (h:(a.toList==b.toList)=false):a≠b:=fun e=>by subst e;simp at h
theorem Kp.boxed {w w1:World} {o:Obj} (h:Below (w.heap.size+1) (w.alloc o) w1):Kp w w1:=fun k hk=>(h.block k (by omega)).trans (Below.heap_alloc w o k hk)
theorem Below.boxed {w w1:World} {o:Obj} (h:Below (w.heap.size+1) (w.alloc o) w1):Below w.heap.size w w1:=((Below.refl _ _).alloc (Nat.le_refl _) o).trans (h.mono (Nat.le_succ _))
set_option maxHeartbeats 4000000 in
theorem checkParts_any (w:World) (v:Value) (b:Book) (hb:BookAt w v b) (hs:Short b) (hp:1≤b.places∧b.places≤4):
 Calls Tz.prog 84 #[v] w (RetI w fun s=>s=0↔PartsOk b):=by
 obtain⟨v2,v3,v4,rfl,⟨a2,c2,h2,f2⟩,h3,h4⟩:=hb
 have H2:Hid (SlAt w v2 b.parts.length a2 c2∧_):=⟨h2,f2⟩
 obtain⟨rfl,l2,m2,n2,r2⟩:=h2
 unfold maxLen at m2
 clear r2 f2 n2 h3 h4
 go_enter Tz.func84,Tz.ntmps84
 go_wp2_with(go_at_call 19;refine(in_b _ _ _ _).mono ?_;rintro e w' ⟨r,rfl,hr,rfl⟩;cases r)
 ·go_ret
  exact RetI.mk (r:=2) ⟨(fun h=>by cases h),fun h=>absurd (by have:=h.many;omega) hr.f⟩ ((Below.refl _ _).alloc (Nat.le_refl _) _)
 have hm:=hr.t
 go_loopw [3] (fun i w1=>∃k:Nat,k≤b.parts.length∧Hid (PartsTo b.places b.parts k)∧i=.int .i64 k∧Hid (Below (w.heap.size+1) (w.alloc (.cells #[.int .i64 b.beat,.int .i64 b.places,.slice a2 b.parts.length c2,v3,v4] 26)) w1)) (fun i _=>b.parts.length-(intOf i).toNat)
 case atStart=>exact⟨0,Nat.zero_le _,.zero _ _,rfl,Below.refl _ _⟩
 case round=>
  obtain⟨k,hk,hN,rfl,hB⟩:=hrel
  have g1:=boxed hB.out 1
  have g2:=boxed hB.out 2
  simp only[List.getElem?_toArray,List.getElem?_cons_succ,List.getElem?_cons_zero]at g1 g2
  by_cases hlt:k<b.parts.length
  ·obtain⟨⟨blk,off,sp⟩,x,rfl,hx,x0,x1,x2,x3,x4,vf,x5,x6⟩:=H2.out.1.elem H2.out.2 hlt
   obtain rfl:sp=none:=x0.1
   have x7:=x6.later (Kp.boxed hB.out)
   obtain⟨af,cf,hf,_⟩:=x6
   obtain⟨rfl,_,_,_,_⟩:=hf
   have HX:Hid (b.parts[k]?=some x∧IntsAt wr (.slice af x.fits.length cf) x.fits):=⟨hx,x7⟩
   have hsz:x.name.size≤maxLen:=by have:=hs k x hlt hx;unfold maxLen;omega
   have y0:=(x0.later (Kp.boxed hB.out)).2
   have y1:=(x1.later (Kp.boxed hB.out)).2
   have y2:=(x2.later (Kp.boxed hB.out)).2
   have y3:=(x3.later (Kp.boxed hB.out)).2
   have y4:=(x4.later (Kp.boxed hB.out)).2
   have y5:=(x5.later (Kp.boxed hB.out)).2
   simp only[←Nat.add_assoc]at y0 y1 y2 y3 y4 y5
   have hz1:w.heap.size+1≤wr.heap.size:=by have:=hB.out.size;simp at this;omega
   have hz2:blk<w.heap.size:=x0.lt
   have g1':∀o o2 n,(((wr.alloc o).drewN n).alloc o2).cell? ⟨w.heap.size,1,none⟩=some (.int .i64 b.places):=fun o o2 n=>(cell_on2 (by show w.heap.size<_;omega) o o2 n).trans g1
   have g2':∀o,(wr.alloc o).cell? ⟨w.heap.size,2,none⟩=some (.slice (some ⟨blk,off,none⟩) b.parts.length c2):=fun o=>(cell_on (by show w.heap.size<_;omega) o).trans g2
   clear x0 x1 x2 x3 x4 x5 x7 hx
   go_wp2_with(go_at_call 109;refine(isName_any _ _ hsz).mono ?_;rintro e w' ⟨r,rfl,hr,rfl⟩;cases r)
   ·go_ret
    exact RetI.mk (r:=4) ⟨(fun h=>by cases h),fun h=>absurd (h.all k x hlt HX.out.1).1.name hr.f⟩ ((Below.boxed hB.out).alloc (by have:=hB.out.size;simp at this;omega) _)
   have HR:Hid (NameOk x.name):=hr.t
   have hlt2:Hid (k<b.parts.length):=hlt
   clear hr
   go_loopw [5] (fun i w2=>∃m:Nat,m≤k∧Hid (NoName b.parts x.name m)∧i=.int .i64 m∧∃n,w2=(wr.alloc (.cells #[.string x.name,.int .i64 x.cost,.int .i64 x.stock,.int .i64 x.lo,.int .i64 x.hi,.slice af x.fits.length cf] 34)).drewN n) (fun i _=>k-(intOf i).toNat)
   case atStart=>exact⟨0,Nat.zero_le _,.zero _ _,rfl,0,rfl⟩
   case round=>
    obtain⟨m,hm2,hM,rfl,n0,rfl⟩:=hrel
    by_cases hmk:m<k
    ·obtain⟨b',y,hb',hy,z0,z5⟩:=H2.out.1.elem H2.out.2 (show m<b.parts.length by have:=hlt2.out;omega)
     cases hb'
     have q0:=((z0.later (Kp.boxed hB.out)).later (Kp.alloc wr (.cells #[.string x.name,.int .i64 x.cost,.int .i64 x.stock,.int .i64 x.lo,.int .i64 x.hi,.slice af x.fits.length cf] 34))).2
     simp only at q0
     have HY:Hid (b.parts[m]?=some y):=hy
     have hmk2:(m:Int)<(k:Int):=by omega
     have hml:(m:Int)<(b.parts.length:Int):=by omega
     clear hy z0 z5
     go_wp2
     go_quiet (fail)
     go_wp2
     ·rename_i hnm
      have e:y.name=x.name:=name_eq hnm
      go_ret
      exact RetI.mk (r:=5) (bad (by decide) fun h=>(h.all k x hlt2.out HX.out.1).2 m y hmk HY.out e) (Below.drewN (Below.one (Below.boxed hB.out) (by omega) _ _) _)
     ·rename_i hnm
      have e:Hid (y.name≠x.name):=name_ne hnm
      clear hnm
      go_round
      case rel=>exact⟨m+1,by omega,hM.out.succ HY.out e.out,by go_num,_,rfl⟩
      case measure=>simp[intOf];omega
    ·have x6':IntsAt ((((wr.alloc (.cells #[.string x.name,.int .i64 x.cost,.int .i64 x.stock,.int .i64 x.lo,.int .i64 x.hi,.slice af x.fits.length cf] 34)).drewN n0).alloc (.cells #[.int .i64 x.lo,.int .i64 x.hi] 31))) (.slice af x.fits.length cf) x.fits:=
      HX.out.2.later (Kp.two wr _ _ _)
     have hp2:0≤b.places∧b.places≤1000:=by omega
     go_wp2_with(first
      |(go_at_call 19;refine(in_b _ _ _ _).mono ?_;rintro e w' ⟨r,rfl,hr,rfl⟩;cases r)
      |(go_at_call 87;refine(within_any _ _ _ _ _).mono ?_;rintro e w' ⟨r,rfl,hr,rfl⟩;cases r)
      |(go_at_call 13;refine(rising_any _ _ _ _ hp2 x6').mono ?_;rintro e w' ⟨r,n1,rfl,hr2,rfl⟩;by_cases hr0:r=0))
     ·go_ret
      exact RetI.mk (r:=1) (bad (by decide) fun h=>hr.f (h.all k x hlt2.out HX.out.1).1.cost) (Below.one (Below.boxed hB.out) (by omega) _ _)
     ·go_ret
      exact RetI.mk (r:=1) (bad (by decide) fun h=>hr.f (h.all k x hlt2.out HX.out.1).1.stock) (Below.one (Below.boxed hB.out) (by omega) _ _)
     ·go_ret
      exact RetI.mk (r:=1) (bad (by decide) fun h=>hr.f (h.all k x hlt2.out HX.out.1).1.time) (Below.two (Below.boxed hB.out) (by omega) _ _ _ 0)
     ·rename_i hw4
      have ht:=hr.t
      have e:¬x.hi-x.lo<4:=by unfold wrap64 at hw4;omega
      go_ret
      exact RetI.mk (r:=1) (bad (by decide) fun h=>e (h.all k x hlt2.out HX.out.1).1.wide) (Below.two (Below.boxed hB.out) (by omega) _ _ _ 0)
     ·rename_i hr19 hr20 hw4
      have ht:=hr.t
      have e:x.hi-x.lo<4:=by unfold wrap64 at hw4;omega
      have HK:Hid (PartOk b.places x):=⟨HR.out,hr19.t,hr20.t,ht,e,hr2.1 hr0⟩
      clear e ht hw4 hr hr2
      have HM:Hid (NoName b.parts x.name k):=(by have e:m=k:=by omega
                                                 subst e;exact hM.out)
      go_round
      case rel=>exact⟨k+1,by omega,hN.out.succ HX.out.1 HK.out HM.out,by go_num,Below.two hB.out (by omega) _ _ _ _⟩
      case measure=>simp[intOf];omega
     ·go_ret
      exact RetI.mk (bad hr0 fun h=>hr0 (hr2.2 (h.all k x hlt2.out HX.out.1).1.rise)) (Below.two (Below.boxed hB.out) (by omega) _ _ _ _)
  ·go_wp2
   go_ret
   have e:k=b.parts.length:=by omega
   subst e
   exact RetI.mk (r:=0) ⟨fun _=>⟨by omega,hN.out⟩,fun _=>rfl⟩ (Below.boxed hB.out)
end Go.Proofs.Cz
end
