/- A part. Conditions: none. -/
import Derived.Test.YtddlcmejelobdaaGreatDoorT22
import Derived.WalkSpells
import Derived.WalkLawsBesides
import Derived.Deep.QuietTactic
import Derived.BigQuiet
import Derived.Deep.LoopGhost
set_option linter.all false
set_option maxHeartbeats 8000000
namespace Go.Proofs.Cz
open Go.RowKit
variable {A:Prop} {B:Nat} {a w w1:World} {b s:ByteArray} {n y:Int} {o:Obj} {v:Value}
def cy (w:World) (P:Bool->Prop) (e:Ending) (w':World):Prop:=(∃r,e=.returned (.bool r)/\P r)/\Below w.heap.size w w'
theorem cy.mk {w w':World} {P:Bool->Prop} {r:Bool} (h:P r) (hb:Below w.heap.size w w'):cy w P (.returned (.bool r)) w':=⟨⟨r,rfl,h⟩,hb⟩
theorem Kp.alloc (w:World) (o:Obj):Kp w (w.alloc o):=fun k hk=>Below.heap_alloc w o k hk
theorem bS.elem {α:Type} {l:List α} {a:Option Addr} {cap:Nat} (h:bS w v l.length a cap) {p:Addr->Nat->α->Prop} (hp:∀b,a=some b->∀j x,l[j]?=some x->p b j x) {k:Nat} (hk:k<l.length):
 ∃b x,a=some b/\l[k]?=some x/\p b k x:=by
 cases a with
 |none=>have:=h.nil rfl;have:=h.le;omega
 |some b=>exact⟨b,l[k],rfl,List.getElem?_eq_getElem hk,hp b rfl k _ (List.getElem?_eq_getElem hk)⟩
def ow (l:List Part) (k:Nat):Prop:=∀j x,j<k->l[j]?=some x->x.name.size<=100
theorem ow.succ {l:List Part} {x:Part} {k:Nat} (h:ow l k) (hx:l[k]?=some x) (h1:x.name.size<=100):ow l (k+1):=fun j y hj hy=>by
 by_cases e:j=k
 .subst e;rw[hx]at hy;cases hy;exact h1
 .exact h j y (by omega) hy
abbrev fL (b:ai):Prop:=ow b.parts b.parts.length
theorem FU (w:World) (v:Value) (b:ai) (hb:au w v b):
 Calls ZP 15 #[v] w (cy w fun r=>r=false->fL b):=by
 obtain⟨v2,v3,v4,rfl,⟨a2,c2,h2,f2⟩,⟨a3,c3,h3,f3⟩,⟨a4,c4,h4,f4⟩⟩:=hb;have H2:Hid (bS w v2 b.parts.length a2 c2/\_):=⟨h2,f2⟩
 have H4:Hid (bS w v4 b.ab.length a4 c4/\_):=⟨h4,f4⟩
 obtain⟨rfl,l2,m2,n2,r2⟩:=h2;obtain⟨rfl,l3,m3,n3,r3⟩:=h3;obtain⟨rfl,l4,m4,n4,r4⟩:=h4;unfold maxLen at m2 m3 m4;clear r2 r3 r4 f2 f3 f4 n2 n3 n4;go_enter ZF15,Tryz.ntmps15
 go_wp2
 all_goals try(go_ret;refine cy.mk (fun h=>by cases h) ((Below.refl _ _).alloc (Nat.le_refl _) _))
 go_loop [3] (fun i=>∃k:Nat,k<=b.parts.length/\Hid (ow b.parts k)/\i=.int .i64 k) (fun i=>b.parts.length-(intOf i).toNat)
 case atStart=>exact⟨0,Nat.zero_le _,(fun j x h=>by omega),rfl⟩
 case round=>
  obtain⟨k,hk,hN,rfl⟩:=hrel;by_cases ar:k<b.parts.length
  .obtain⟨⟨blk,off,sp⟩,x,rfl,hx,x0,x1,x2,x3,x4,vf,x5,af,cf,hf,_⟩:=H2.o.1.elem H2.o.2 ar;obtain rfl:sp=none:=x0.1;obtain⟨rfl,lf,mf,_,_⟩:=hf;have y0:=(x0.later (Kp.alloc w (.cells #[.int .i64 b.ao,.int .i64 b.places,.slice (some ⟨blk,off,none⟩) b.parts.length c2,.slice a3 b.apart.length c3,.slice a4 b.ab.length c4] 26))).2;have y5:=(x5.later (Kp.alloc w (.cells #[.int .i64 b.ao,.int .i64 b.places,.slice (some ⟨blk,off,none⟩) b.parts.length c2,.slice a3 b.apart.length c3,.slice a4 b.ab.length c4] 26))).2;simp only[<-Nat.add_assoc]at y0 y5;clear x0 x1 x2 x3 x4 x5;have HX:=hid hx;go_wp2
   all_goals try(go_ret;refine cy.mk (fun h=>by cases h) ((Below.refl _ _).alloc (Nat.le_refl _) _))
   go_round
   case rel=>exact⟨k+1,by omega,hN.o.succ HX.o (by omega),by go_num⟩
   case measure=>simp[intOf];omega
  .have hN:Hid (fL b):=by have e:k=b.parts.length:=by omega
                          subst e;exact hN.o
   go_wp2
   go_loop [4] (fun i=>∃k:Nat,k<=b.ab.length/\i=.int .i64 k) (fun i=>b.ab.length-(intOf i).toNat)
   case atStart=>exact⟨0,Nat.zero_le _,rfl⟩
   case round=>
    obtain⟨k,hk,rfl⟩:=hrel;by_cases ar:k<b.ab.length
    .obtain⟨⟨blk,off,sp⟩,x,rfl,hx,⟨vf,x0,af,cf,hf,_⟩,_⟩:=H4.o.1.elem H4.o.2 ar;obtain rfl:sp=none:=x0.1;obtain⟨rfl,lf,mf,_,_⟩:=hf;have y0:=(x0.later (Kp.alloc w (.cells #[.int .i64 b.ao,.int .i64 b.places,.slice a2 b.parts.length c2,.slice a3 b.apart.length c3,.slice (some ⟨blk,off,none⟩) b.ab.length c4] 26))).2;simp only at y0;clear x0;go_wp2
     all_goals try(go_ret;refine cy.mk (fun h=>by cases h) ((Below.refl _ _).alloc (Nat.le_refl _) _))
     go_round
     case rel=>exact⟨k+1,by omega,by go_num⟩
     case measure=>simp[intOf];omega
    .go_wp2
     all_goals(go_ret;exact cy.mk (fun _=>hN.o) ((Below.refl _ _).alloc (Nat.le_refl _) _))
def ox (w:World) (v:Value) (e:Ending) (w':World):Prop:=e=.returned v/\w'=w
theorem ox.of (v':Value) (h:v'=v):ox w v (.returned v') w:=⟨by rw[h],rfl⟩
theorem cy.eq {w':World} {P:Bool->Prop} {r:Bool} (h:P r) (hb:Below w.heap.size w w') (e:v=.bool r):cy w P (.returned v) w':=by subst e;exact .mk h hb
def Tr (r:Bool) (A:Prop):Prop:=r=true↔A
theorem Tr.t (h:Tr true A):A:=h.1 rfl
theorem Tr.f (h:Tr false A):¬A:=fun a=>Bool.noConfusion (h.2 a)
theorem Tr.yes (h:A):Tr true A:=⟨fun _=>h,fun _=>rfl⟩
theorem Tr.no (h:¬A):Tr false A:=⟨fun h=>Bool.noConfusion h,fun a=>absurd a h⟩
def cW (w:World) (P:Bool->Prop) (e:Ending) (w':World):Prop:=∃r,e=.returned (.bool r)/\P r/\w'=w
def OH (w:World) (o:Obj) (P:Bool->Prop) (e:Ending) (w':World):Prop:=∃r,e=.returned (.bool r)/\P r/\w'=w.alloc o
def Vs (w:World) (P:Int->Prop) (e:Ending) (w':World):Prop:=∃r n,e=.returned (.int .i64 r)/\P r/\w'=w.drewN n
theorem cW.mk {w:World} {P:Bool->Prop} {r:Bool} (h:P r):cW w P (.returned (.bool r)) w:=⟨r,rfl,h,rfl⟩
theorem cM (n a b:Int) (w:World):Calls ZP 115 #[.int .i64 n,.int .i64 a,.int .i64 b] w (ox w (.bool (decide (a<=n)&&decide (n<=b)))):=by
 by_cases h1:a<=n<;>by_cases h2:n<=b
 all_goals
  go_enter ZF115,Tryz.ntmps115
  go_wp2
  go_ret;exact⟨by simp[h1,h2],rfl⟩
theorem mZ (n a b:Int) (w:World):Calls ZP 12 #[.int .i64 n,.int .i64 a,.int .i64 b] w (ox w (.bool (decide (a<=n)&&decide (n<=b)))):=by
 by_cases h1:a<=n<;>by_cases h2:n<=b
 all_goals
  go_enter ZF12,Tryz.ntmps12
  go_wp2
  go_ret;exact⟨by simp[h1,h2],rfl⟩
theorem Ch (c:Int) (w:World):Calls ZP 143 #[.int .u8 c] w (ox w (.bool (decide (97<=c)&&decide (c<=122)))):=by
 by_cases h1:97<=c<;>by_cases h2:c<=122
 all_goals
  go_enter ZF143,Tryz.ntmps143
  go_wp2
  go_ret;exact⟨by simp[h1,h2],rfl⟩
theorem FV (c:Int) (w:World):Calls ZP 144 #[.int .u8 c] w (ox w (.bool (decide (48<=c)&&decide (c<=57)))):=by
 by_cases h1:48<=c<;>by_cases h2:c<=57
 all_goals
  go_enter ZF144,Tryz.ntmps144
  go_wp2
  go_ret;exact⟨by simp[h1,h2],rfl⟩
theorem sr (lo hi a b:Int) (w:World):Calls ZP 102 #[.agg #[.int .i64 lo,.int .i64 hi],.int .i64 a,.int .i64 b] w (OH w (.cells #[.int .i64 lo,.int .i64 hi] 34) fun r=>Tr r (a<=lo/\lo<=hi/\hi<=b)):=by
 by_cases h1:a<=lo<;>by_cases h2:lo<=hi<;>by_cases h3:hi<=b
 all_goals
  go_enter ZF102,Tryz.ntmps102
  go_wp2
  go_ret;exact⟨_,rfl,by unfold Tr;simp[h1,h2,h3],rfl⟩
theorem ss (lo hi a b m:Int) (hb:0<=a/\b<=1000) (w:World):Calls ZP 99 #[.agg #[.int .i64 lo,.int .i64 hi],.int .i64 a,.int .i64 b,.int .i64 m] w (OH w (.cells #[.int .i64 lo,.int .i64 hi] 34) fun r=>Tr r (a<=lo/\lo<=hi/\hi<=b/\hi-lo<m)):=by
 by_cases h1:a<=lo<;>by_cases h2:lo<=hi<;>by_cases h3:hi<=b
 all_goals
  go_enter ZF99,Tryz.ntmps99
  go_wp2
  go_ret;refine⟨_,rfl,?_,rfl⟩;unfold Tr
  first
   |(have e:wrap64 (hi-lo)=hi-lo:=by unfold wrap64;omega
     simp[h1,h2,h3,e])
   |(simp[h1,h2,h3];done)
   |(simp[h1,h2,h3];omega)
def aT (w:World) (P:Int->Prop) (e:Ending) (w':World):Prop:=(∃r,e=.returned (.int .i64 r)/\P r)/\Below w.heap.size w w'
theorem aT.mk {w w':World} {P:Int->Prop} {r:Int} (h:P r) (hb:Below w.heap.size w w'):aT w P (.returned (.int .i64 r)) w':=⟨⟨r,rfl,h⟩,hb⟩
def iG (l:List Int) (x:Int) (k:Nat):Prop:=∀j y,j<k->l[j]?=some y->y≠x
theorem iG.zero (l:List Int) (x:Int):iG l x 0:=fun j y h=>by omega
theorem iG.succ {l:List Int} {x:Int} {k:Nat} (h:iG l x k) (hy:l[k]?=some y) (bC:y≠x):iG l x (k+1):=fun j z hj hz=>by
 by_cases e:j=k
 .subst e;rw[hy]at hz;cases hz;exact bC
 .exact h j z (by omega) hz
theorem iG.all {l:List Int} {x:Int} (h:iG l x l.length):x∉l:=fun hm=>by
 obtain⟨j,hj,rfl⟩:=List.getElem_of_mem hm;exact h j _ hj (List.getElem?_eq_getElem hj) rfl
theorem DX (w:World) (v:Value) (l:List Int) (x:Int) (h:aC w v l):Calls ZP 77 #[v,.int .i64 x] w (ox w (.bool (decide (x∈l)))):=by
 obtain⟨a,c,h1,h2⟩:=h;have H:Hid (bS w v l.length a c/\_):=⟨h1,h2⟩
 obtain⟨rfl,l1,m1,n1,r1⟩:=h1;unfold maxLen at m1;clear h2 n1 r1;go_enter ZF77,Tryz.ntmps77
 go_wp2
 go_loop [5] (fun i=>∃k:Nat,k<=l.length/\Hid (iG l x k)/\i=.int .i64 k) (fun i=>l.length-(intOf i).toNat)
 case atStart=>exact⟨0,Nat.zero_le _,iG.zero l x,rfl⟩
 case round=>
  obtain⟨k,hk,hN,rfl⟩:=hrel;by_cases ar:k<l.length
  .obtain⟨⟨blk,off,sp⟩,y,rfl,hy,y0⟩:=H.o.1.elem H.o.2 ar;obtain rfl:sp=none:=y0.1;have g0:=y0.2;simp only at g0;have HY:=hid hy;clear y0 hy;by_cases e:y=x
   .go_wp2
    go_ret;exact ox.of (.bool true) (by rw[decide_eq_true (e▸List.mem_of_getElem? HY.o)])
   .go_wp2
    go_round
    case rel=>exact⟨k+1,by omega,hN.o.succ HY.o e,by go_num⟩
    case measure=>simp[intOf];omega
  .have e:k=l.length:=by omega
   subst e;go_wp2
   go_ret;exact ox.of (.bool false) (by rw[decide_eq_false hN.o.all])
def gQ (l:List Int) (n:Int) (k:Nat):Prop:=∀j y,j<k->l[j]?=some y->0<=y/\y<=n-1/\∀z,0<j->l[j-1]?=some z->z<y
theorem gQ.zero (l:List Int) (n:Int):gQ l n 0:=fun j y h=>by omega
theorem gQ.succ {l:List Int} {k:Nat} (h:gQ l n k) (hy:l[k]?=some y) (h1:0<=y/\y<=n-1) (h2:∀z,0<k->l[k-1]?=some z->z<y):gQ l n (k+1):=fun j z hj hz=>by
 by_cases e:j=k
 .subst e;rw[hy]at hz;cases hz;exact⟨h1.1,h1.2,h2⟩
 .exact h j z (by omega) hz
abbrev Ci (l:List Int) (n:Int):Prop:=gQ l n l.length
theorem Below.drewN (h:Below B a w) (n:Nat):Below B a (w.drewN n):=⟨h.os,h.tape,h.output,h.size,h.block⟩
theorem Cj (w:World) (v:Value) (l:List Int) (n:Int) (hn:0<=n/\n<=1000) (h:aC w v l):Calls ZP 31 #[v,.int .i64 n] w (Vs w fun s=>s=0↔Ci l n):=by
 obtain⟨a,c,h1,h2⟩:=h;have H:Hid (bS w v l.length a c/\_):=⟨h1,h2⟩
 obtain⟨rfl,l1,m1,n1,r1⟩:=h1;unfold maxLen at m1;clear h2 n1 r1;go_enter ZF31,Tryz.ntmps31
 go_wp2
 go_loopw [5] (fun i w1=>∃k:Nat,k<=l.length/\Hid (gQ l n k)/\i=.int .i64 k/\∃n,w1=w.drewN n) (fun i _=>l.length-(intOf i).toNat)
 case atStart=>exact⟨0,Nat.zero_le _,gQ.zero l n,rfl,0,rfl⟩
 case round=>
  obtain⟨k,hk,hN,rfl,n0,rfl⟩:=hrel;by_cases ar:k<l.length
  .obtain⟨⟨blk,off,sp⟩,y,rfl,hy,y0⟩:=H.o.1.elem H.o.2 ar;obtain rfl:sp=none:=y0.1;have g0:=y0.2;simp only at g0;have HY:=hid hy;have hw:wrap64 (n-1)=n-1:=by unfold wrap64;omega
   clear y0 hy;by_cases e1:0<=y/\y<=n-1
   .obtain⟨e1,e2⟩:=e1;by_cases rh:0<k
    .obtain⟨b',z,Jm,hz,z0⟩:=H.o.1.elem H.o.2 (show k-1<l.length by omega);cases Jm;have g1:=z0.2;simp only at g1;go_wp2_with(go_at_call 12;refine(mZ _ _ _ _).mono ?_;rintro e w' ⟨rfl,rfl⟩)
     have oL:wrap64 ((k:Int)-1)=((k-1:Nat):Int):=by unfold wrap64;omega
     have mO:(0:Int)<(k:Int):=by omega
     have od:((k-1:Nat):Int)<(l.length:Int):=by omega
     have mT:(k:Int)<(l.length:Int):=by omega
     by_cases hzy:y<=z
     .go_quiet (fail)
      go_wp2
      go_ret;refine⟨7,_,rfl,⟨(fun h=>by cases h),fun h=>?_⟩,by simp only[World.drewN_drewN];rfl⟩;have:=(h k y ar HY.o).2.2 z rh hz;omega
     .go_quiet (fail)
      go_wp2
      go_round
      case rel=>exact⟨k+1,by omega,hN.o.succ HY.o ⟨e1,e2⟩ (fun z' _ h=>by rw[hz]at h;cases h;omega),by go_num,_,rfl⟩
      case measure=>simp[intOf];omega
    .have mO:¬(0:Int)<(k:Int):=by omega
     have mT:(k:Int)<(l.length:Int):=by omega
     go_wp2_with(go_at_call 12;refine(mZ _ _ _ _).mono ?_;rintro e w' ⟨rfl,rfl⟩)
     go_quiet (fail)
     go_wp2
     go_round
     case rel=>exact⟨k+1,by omega,hN.o.succ HY.o ⟨e1,e2⟩ (fun z' h _=>by omega),by go_num,_,rfl⟩
     case measure=>simp[intOf];omega
   .have e2:(decide (0<=y)&&decide (y<=n-1))=false:=by
     cases hd:(decide (0<=y)&&decide (y<=n-1))with
     |false=>rfl
     |true=>exact absurd (by simpa using hd) e1
    have E1:=hid e1;clear e1;go_wp2_with(go_at_call 12;refine(mZ _ _ _ _).mono ?_;rintro e w' ⟨rfl,rfl⟩)
    go_ret;refine⟨6,_,rfl,⟨(fun h=>by cases h),fun h=>?_⟩,rfl⟩;have:=h k y ar HY.o;exact absurd ⟨this.1,this.2.1⟩ E1.o
  .have e:k=l.length:=by omega
   subst e;go_wp2
   go_ret;exact⟨0,_,rfl,⟨fun _=>hN.o,fun _=>rfl⟩,rfl⟩
def su (c:Int):Prop:=97<=c/\c<=122
def zv (c:Int):Prop:=48<=c/\c<=57
def m6 (s:ByteArray) (k:Nat):Prop:=∀j (hj:j<s.size),j<k->su (s[j].toNat)\/0<j/\zv (s[j].toNat)
def jj (s:ByteArray):Prop:=1<=s.size/\s.size<=10/\m6 s s.size
theorem m6.succ {k:Nat} (h:m6 s k) (hk:k<s.size) (h1:su (s[k].toNat)\/0<k/\zv (s[k].toNat)):m6 s (k+1):=fun j hj qN=>by
 by_cases e:j=k
 .subst e;exact h1
 .exact h j hj (by omega)
theorem zx (w:World) (c:Int):Calls ZP 143 #[.int .u8 c] w (cW w fun r=>Tr r (su c)):=(Ch c w).mono fun _ _ h=>⟨_,h.1,(by unfold Tr;simp[su]),h.2⟩
theorem MI (w:World) (c:Int):Calls ZP 144 #[.int .u8 c] w (cW w fun r=>Tr r (zv c)):=(FV c w).mono fun _ _ h=>⟨_,h.1,(by unfold Tr;simp[zv]),h.2⟩
theorem MJ (w:World) (n a b:Int):Calls ZP 12 #[.int .i64 n,.int .i64 a,.int .i64 b] w (cW w fun r=>Tr r (a<=n/\n<=b)):=(mZ n a b w).mono fun _ _ h=>⟨_,h.1,(by unfold Tr;simp),h.2⟩
theorem iH (w:World) (n a b:Int):Calls ZP 115 #[.int .i64 n,.int .i64 a,.int .i64 b] w (cW w fun r=>Tr r (a<=n/\n<=b)):=(cM n a b w).mono fun _ _ h=>⟨_,h.1,(by unfold Tr;simp),h.2⟩
theorem Ck (w:World) (s:ByteArray) (hs:s.size<=maxLen):Calls ZP 131 #[.string s] w (cW w fun r=>Tr r (jj s)):=by
 unfold maxLen at hs;go_enter ZF131,Tryz.ntmps131
 by_cases h1:(s.size:Int)<1
 .go_wp2
  go_ret;exact cW.mk (.no fun h=>by have:=h.1;omega)
 by_cases h2:(s.size:Int)>10
 .go_wp2
  go_ret;exact cW.mk (.no fun h=>by have:=h.2.1;omega)
 go_wp2
 go_loop [3] (fun i=>∃k:Nat,k<=s.size/\Hid (m6 s k)/\i=.int .i64 k) (fun i=>s.size-(intOf i).toNat)
 case atStart=>exact⟨0,Nat.zero_le _,(fun j _ h=>by omega),rfl⟩
 case round=>
  obtain⟨k,hk,hN,rfl⟩:=hrel;by_cases ar:k<s.size
  .have HL:Hid (k<s.size):=ar;by_cases rh:(k:Int)=0
   .have oL:k=0:=by omega
    go_wp2_with(go_at_call 143;refine(zx _ _).mono ?_;rintro e w' ⟨r,rfl,hr,rfl⟩;cases r)
    .go_ret;refine cW.mk (.no fun h=>?_);rcases h.2.2 0 (by omega) (by omega)with h|h
     .exact hr.f h
     .omega
    .go_round
     case rel=>subst oL;exact⟨0+1,by omega,hN.o.succ HL.o (.inl hr.t),by go_num⟩
     case measure=>simp[intOf];omega
   .go_wp2_with(first|(go_at_call 143;refine(zx _ _).mono ?_;rintro e w' ⟨r,rfl,hr,rfl⟩;cases r)|(go_at_call 144;refine(MI _ _).mono ?_;rintro e w' ⟨r,rfl,qw,rfl⟩;cases r))
    .go_ret;refine cW.mk (.no fun h=>?_);rcases h.2.2 k (by omega) (by omega)with h|h
     .exact hr.f h
     .exact qw.f h.2
    .go_round
     case rel=>exact⟨k+1,by omega,hN.o.succ HL.o (.inr ⟨by omega,qw.t⟩),by go_num⟩
     case measure=>simp[intOf];omega
    .go_round
     case rel=>exact⟨k+1,by omega,hN.o.succ HL.o (.inl hr.t),by go_num⟩
     case measure=>simp[intOf];omega
  .obtain rfl:k=s.size:=by omega
   go_wp2
   go_ret;refine cW.mk (.yes ⟨by omega,by omega,hN.o⟩)
structure eT (places:Int) (x:Part):Prop where
 name:jj x.name
 cost:0<=x.cost/\x.cost<=99
 bL:0<=x.bL/\x.bL<=3
 time:0<=x.lo/\x.lo<=x.hi/\x.hi<=20
 wide:x.hi-x.lo<4
 Rf:Ci x.fits places
def jY (places:Int) (l:List Part) (k:Nat):Prop:=∀j x,j<k->l[j]?=some x->eT places x/\∀i y,i<j->l[i]?=some y->y.name≠x.name
theorem jY.zero (p:Int) (l:List Part):jY p l 0:=fun j x h=>by omega
theorem jY.succ {p:Int} {l:List Part} {x:Part} {k:Nat} (h:jY p l k) (hx:l[k]?=some x) (h1:eT p x) (h2:∀i y,i<k->l[i]?=some y->y.name≠x.name):jY p l (k+1):=fun j y hj hy=>by
 by_cases e:j=k
 .subst e;rw[hx]at hy;cases hy;exact⟨h1,h2⟩
 .exact h j y (by omega) hy
structure qV (b:ai):Prop where
 many:1<=b.parts.length/\b.parts.length<=5
 all:jY b.places b.parts b.parts.length
def fZ (l:List Part) (s:ByteArray) (k:Nat):Prop:=∀j y,j<k->l[j]?=some y->y.name≠s
theorem fZ.zero (l:List Part) (s:ByteArray):fZ l s 0:=fun j y h=>by omega
theorem fZ.succ {l:List Part} {x:Part} {k:Nat} (h:fZ l s k) (hx:l[k]?=some x) (bC:x.name≠s):fZ l s (k+1):=fun j y hj hy=>by
 by_cases e:j=k
 .subst e;rw[hx]at hy;cases hy;exact bC
 .exact h j y (by omega) hy
theorem boxed {cs:Array Value} {t:Nat} (h:Below (w.heap.size+1) (w.alloc (.cells cs t)) w1) (k:Nat):w1.cell? ⟨w.heap.size,k,none⟩=cs[k]?:=by
 have:=h.block w.heap.size (by omega);have h2:w1.heap[w.heap.size]?=some (.cells cs t):=this.trans (by show(w.heap.push _)[w.heap.size]?=_;simp);simp only[World.cell?,h2];rfl
theorem ey {a:Addr} (h:a.block<w.heap.size) (o:Obj):(w.alloc o).cell? a=w.cell? a:=World.cell?_of_block (Kp.alloc w o _ h)
theorem Jn {a:Addr} (h:a.block<w.heap.size) (o o2:Obj) (n:Nat):(((w.alloc o).drewN n).alloc o2).cell? a=w.cell? a:=(ey (by simp;omega) o2).trans (ey h o)
theorem Kp.two (w:World) (o o2:Obj) (n:Nat):Kp w (((w.alloc o).drewN n).alloc o2):=fun k hk=>(Kp.alloc ((w.alloc o).drewN n) o2 k (by simp;omega)).trans (Kp.alloc w o k hk)
theorem Below.one (h:Below B a w) (hs:B<=w.heap.size) (o:Obj) (n:Nat):Below B a ((w.alloc o).drewN n):=Below.drewN (h.alloc hs o) n
theorem Below.two (h:Below B a w) (hs:B<=w.heap.size) (o o2:Obj) (n m:Nat):Below B a ((((w.alloc o).drewN n).alloc o2).drewN m):=Below.drewN (Below.alloc (Below.one h hs o n) (by simp;omega) o2) m
theorem bad {r:Int} (h0:r≠0) (h:¬A):r=0↔A:=⟨fun h=>absurd h h0,fun a=>absurd a h⟩
theorem DY {a:ByteArray} (h:(a.toList==b.toList)=true):a=b:=by
 have h2:=eq_of_beq h;rw[ByteArray.toList_eq,ByteArray.toList_eq]at h2;cases a;cases b;simpa using h2
theorem MK {a:ByteArray} (h:(a.toList==b.toList)=false):a≠b:=fun e=>by subst e;simp at h
theorem Kp.boxed (h:Below (w.heap.size+1) (w.alloc o) w1):Kp w w1:=fun k hk=>(h.block k (by omega)).trans (Below.heap_alloc w o k hk)
theorem Below.boxed (h:Below (w.heap.size+1) (w.alloc o) w1):Below w.heap.size w w1:=((Below.refl _ _).alloc (Nat.le_refl _) o).trans (h.mono (Nat.le_succ _))
theorem sv (w:World) (v:Value) (b:ai) (hb:au w v b) (hs:fL b) (hp:1<=b.places/\b.places<=4):
 Calls ZP 105 #[v] w (aT w fun s=>s=0↔qV b):=by
 obtain⟨v2,v3,v4,rfl,⟨a2,c2,h2,f2⟩,h3,h4⟩:=hb;have H2:Hid (bS w v2 b.parts.length a2 c2/\_):=⟨h2,f2⟩
 obtain⟨rfl,l2,m2,n2,r2⟩:=h2;unfold maxLen at m2;clear r2 f2 n2 h3 h4;go_enter ZF105,Tryz.ntmps105
 go_wp2_with(go_at_call 12;refine(MJ _ _ _ _).mono ?_;rintro e w' ⟨r,rfl,hr,rfl⟩;cases r)
 .go_ret;exact aT.mk (r:=2) ⟨(fun h=>by cases h),fun h=>absurd (by have:=h.many;omega) hr.f⟩ ((Below.refl _ _).alloc (Nat.le_refl _) _)
 have hm:=hr.t;go_loopw [3] (fun i w1=>∃k:Nat,k<=b.parts.length/\Hid (jY b.places b.parts k)/\i=.int .i64 k/\Hid (Below (w.heap.size+1) (w.alloc (.cells #[.int .i64 b.ao,.int .i64 b.places,.slice a2 b.parts.length c2,v3,v4] 26)) w1)) (fun i _=>b.parts.length-(intOf i).toNat)
 case atStart=>exact⟨0,Nat.zero_le _,.zero _ _,rfl,Below.refl _ _⟩
 case round=>
  obtain⟨k,hk,hN,rfl,hB⟩:=hrel;have g1:=boxed hB.o 1;have g2:=boxed hB.o 2;simp only[List.getElem?_toArray,List.getElem?_cons_succ,List.getElem?_cons_zero]at g1 g2;by_cases ar:k<b.parts.length
  .obtain⟨⟨blk,off,sp⟩,x,rfl,hx,x0,x1,x2,x3,x4,vf,x5,x6⟩:=H2.o.1.elem H2.o.2 ar;obtain rfl:sp=none:=x0.1;have x7:=x6.later (Kp.boxed hB.o);obtain⟨af,cf,hf,_⟩:=x6;obtain⟨rfl,_,_,_,_⟩:=hf;have HX:Hid (b.parts[k]?=some x/\aC wr (.slice af x.fits.length cf) x.fits):=⟨hx,x7⟩
   have bQ:x.name.size<=maxLen:=by have:=hs k x ar hx;unfold maxLen;omega
   have y0:=(x0.later (Kp.boxed hB.o)).2;have y1:=(x1.later (Kp.boxed hB.o)).2;have y2:=(x2.later (Kp.boxed hB.o)).2;have y3:=(x3.later (Kp.boxed hB.o)).2;have y4:=(x4.later (Kp.boxed hB.o)).2;have y5:=(x5.later (Kp.boxed hB.o)).2;simp only[<-Nat.add_assoc]at y0 y1 y2 y3 y4 y5;have mU:w.heap.size+1<=wr.heap.size:=by have:=hB.o.size;simp at this;omega
   have pS:blk<w.heap.size:=x0.lt;have g1':∀o o2 n,(((wr.alloc o).drewN n).alloc o2).cell? ⟨w.heap.size,1,none⟩=some (.int .i64 b.places):=fun o o2 n=>(Jn (by show w.heap.size<_;omega) o o2 n).trans g1;have TV:∀o,(wr.alloc o).cell? ⟨w.heap.size,2,none⟩=some (.slice (some ⟨blk,off,none⟩) b.parts.length c2):=fun o=>(ey (by show w.heap.size<_;omega) o).trans g2;clear x0 x1 x2 x3 x4 x5 x7 hx;go_wp2_with(go_at_call 131;refine(Ck _ _ bQ).mono ?_;rintro e w' ⟨r,rfl,hr,rfl⟩;cases r)
   .go_ret;exact aT.mk (r:=4) ⟨(fun h=>by cases h),fun h=>absurd (h.all k x ar HX.o.1).1.name hr.f⟩ ((Below.boxed hB.o).alloc (by have:=hB.o.size;simp at this;omega) _)
   have HR:Hid (jj x.name):=hr.t;have zy:=hid ar;clear hr;go_loopw [5] (fun i w2=>∃m:Nat,m<=k/\Hid (fZ b.parts x.name m)/\i=.int .i64 m/\∃n,w2=(wr.alloc (.cells #[.string x.name,.int .i64 x.cost,.int .i64 x.bL,.int .i64 x.lo,.int .i64 x.hi,.slice af x.fits.length cf] 37)).drewN n) (fun i _=>k-(intOf i).toNat)
   case atStart=>exact⟨0,Nat.zero_le _,.zero _ _,rfl,0,rfl⟩
   case round=>
    obtain⟨m,hm2,hM,rfl,n0,rfl⟩:=hrel;by_cases gS:m<k
    .obtain⟨b',y,Jm,hy,z0,z5⟩:=H2.o.1.elem H2.o.2 (show m<b.parts.length by have:=zy.o;omega);cases Jm;have q0:=((z0.later (Kp.boxed hB.o)).later (Kp.alloc wr (.cells #[.string x.name,.int .i64 x.cost,.int .i64 x.bL,.int .i64 x.lo,.int .i64 x.hi,.slice af x.fits.length cf] 37))).2;simp only at q0;have HY:=hid hy;have Vt:(m:Int)<(k:Int):=by omega
     have OI:(m:Int)<(b.parts.length:Int):=by omega
     clear hy z0 z5;go_wp2
     go_quiet (fail)
     go_wp2
     .rename_i Kw;have e:y.name=x.name:=DY Kw;go_ret;exact aT.mk (r:=5) (bad (by decide) fun h=>(h.all k x zy.o HX.o.1).2 m y gS HY.o e) (Below.drewN (Below.one (Below.boxed hB.o) (by omega) _ _) _)
     .rename_i Kw;have e:Hid (y.name≠x.name):=MK Kw;clear Kw;go_round
      case rel=>exact⟨m+1,by omega,hM.o.succ HY.o e.o,by go_num,_,rfl⟩
      case measure=>simp[intOf];omega
    .have x6':aC ((((wr.alloc (.cells #[.string x.name,.int .i64 x.cost,.int .i64 x.bL,.int .i64 x.lo,.int .i64 x.hi,.slice af x.fits.length cf] 37)).drewN n0).alloc (.cells #[.int .i64 x.lo,.int .i64 x.hi] 34))) (.slice af x.fits.length cf) x.fits:=
      HX.o.2.later (Kp.two wr _ _ _)
     have GH:0<=b.places/\b.places<=1000:=by omega
     go_wp2_with(first
      |(go_at_call 12;refine(MJ _ _ _ _).mono ?_;rintro e w' ⟨r,rfl,hr,rfl⟩;cases r)
      |(go_at_call 102;refine(sr _ _ _ _ _).mono ?_;rintro e w' ⟨r,rfl,hr,rfl⟩;cases r)
      |(go_at_call 31;refine(Cj _ _ _ _ GH x6').mono ?_;rintro e w' ⟨r,n1,rfl,qw,rfl⟩;by_cases ti:r=0))
     .go_ret;exact aT.mk (r:=1) (bad (by decide) fun h=>hr.f (h.all k x zy.o HX.o.1).1.cost) (Below.one (Below.boxed hB.o) (by omega) _ _)
     .go_ret;exact aT.mk (r:=1) (bad (by decide) fun h=>hr.f (h.all k x zy.o HX.o.1).1.bL) (Below.one (Below.boxed hB.o) (by omega) _ _)
     .go_ret;exact aT.mk (r:=1) (bad (by decide) fun h=>hr.f (h.all k x zy.o HX.o.1).1.time) (Below.two (Below.boxed hB.o) (by omega) _ _ _ 0)
     .rename_i Vu;have ht:=hr.t;have e:¬x.hi-x.lo<4:=by unfold wrap64 at Vu;omega
      go_ret;exact aT.mk (r:=1) (bad (by decide) fun h=>e (h.all k x zy.o HX.o.1).1.wide) (Below.two (Below.boxed hB.o) (by omega) _ _ _ 0)
     .rename_i za0 za1 Vu;have ht:=hr.t;have e:x.hi-x.lo<4:=by unfold wrap64 at Vu;omega
      have HK:Hid (eT b.places x):=⟨HR.o,za0.t,za1.t,ht,e,qw.1 ti⟩
      clear e ht Vu hr qw
      have HM:Hid (fZ b.parts x.name k):=(by have e:m=k:=by omega
                                             subst e;exact hM.o)
      go_round
      case rel=>exact⟨k+1,by omega,hN.o.succ HX.o.1 HK.o HM.o,by go_num,Below.two hB.o (by omega) _ _ _ _⟩
      case measure=>simp[intOf];omega
     .go_ret;exact aT.mk (bad ti fun h=>ti (qw.2 (h.all k x zy.o HX.o.1).1.Rf)) (Below.two (Below.boxed hB.o) (by omega) _ _ _ _)
  .go_wp2
   go_ret;have e:k=b.parts.length:=by omega
   subst e;exact aT.mk (r:=0) ⟨fun _=>⟨by omega,hN.o⟩,fun _=>rfl⟩ (Below.boxed hB.o)
def scan (f:Nat->Int):Nat->Int
 |0=>0
 |k+1=>if scan f k=0 then f k else scan f k
theorem lS {f:Nat->Int} {k:Nat} (h:scan f k=0) (h2:f k=0):scan f (k+1)=0:=by unfold scan;rw[if_pos h];exact h2
theorem pr {f:Nat->Int} {k:Nat} (h:scan f k≠0):∀n,scan f (k+n)=scan f k
 |0=>rfl
 |n+1=>by
  rw[<-Nat.add_assoc,scan,if_neg (by rw[pr h n];exact h),pr h n]
theorem bV {f:Nat->Int} {k n:Nat} {s:Int} (h:scan f k=0) (hs:f k=s) (h2:s≠0) (hk:k<n):scan f n=s:=by
 have e:scan f (k+1)=s:=by unfold scan;rw[if_pos h];exact hs
 obtain⟨m,rfl⟩:∃m,n=k+1+m:=⟨n-(k+1),by omega⟩
 rw[pr (by rw[e];exact h2),e]
theorem eA {f:Nat->Int}:∀{n:Nat},scan f n=0↔∀j,j<n->f j=0
 |0=>⟨fun _ j h=>by omega,fun _=>rfl⟩
 |n+1=>by
  constructor
  .intro h j hj;by_cases h0:scan f n=0
   .have e:=h;unfold scan at e;rw[if_pos h0]at e;by_cases ej:j=n
    .subst ej;exact e
    .exact eA.1 h0 j (by omega)
   .have e:=h;unfold scan at e;rw[if_neg h0]at e;exact absurd e h0
  .intro h;exact lS (eA.2 fun j hj=>h j (by omega)) (h n (by omega))
def gF (n:Int) (l:List Int) (k:Nat):Int:=match l[k]? with
 |none=>0
 |some y=>if 0<=y/\y<=n-1 then(if 0<k then(match l[k-1]? with|some z=>if y<=z then 7 else 0|none=>0)else 0)else 6
def jZ (l:List Int) (n:Int):Int:=scan (gF n l) l.length
theorem Vv {l:List Int} {k:Nat} (hy:l[k]?=some y) (h:¬(0<=y/\y<=n-1)):gF n l k=6:=by unfold gF;rw[hy];simp only;rw[if_neg h]
theorem Vw {z:Int} {l:List Int} {k:Nat} (hy:l[k]?=some y) (h:0<=y/\y<=n-1) (hk:0<k) (hz:l[k-1]?=some z) (h2:y<=z):gF n l k=7:=by unfold gF;rw[hy];simp only;rw[if_pos h,if_pos hk,hz];simp only;rw[if_pos h2]
theorem Jo {l:List Int} {k:Nat} (hy:l[k]?=some y) (h:0<=y/\y<=n-1) (h2:∀z,0<k->l[k-1]?=some z->z<y):gF n l k=0:=by
 unfold gF;rw[hy];simp only;rw[if_pos h];by_cases hk:0<k
 .rw[if_pos hk];cases hz:l[k-1]? with
  |none=>rfl
  |some z=>
   simp only;rw[if_neg (by have:=h2 z hk hz;omega)]
 .rw[if_neg hk]
theorem pW {l:List Int}:jZ l n=0↔Ci l n:=by
 unfold jZ;rw[eA];constructor
 .intro h j y hj hy;have h1:=h j hj;unfold gF at h1;rw[hy]at h1;simp only at h1;split at h1
  .rename_i hr;refine⟨hr.1,hr.2,fun z hj0 hz=>?_⟩;rw[if_pos hj0,hz]at h1;simp only at h1;split at h1
   .cases h1
   .omega
  .cases h1
 .intro h j hj;have hy:l[j]?=some l[j]:=List.getElem?_eq_getElem hj;have h1:=h j _ hj hy;exact Jo hy ⟨h1.1,h1.2.1⟩ h1.2.2
open Classical in
noncomputable def cN (p:Int) (l:List Part) (k:Nat):Int:=match l[k]? with
 |none=>0
 |some x=>if jj x.name then(if∃i y,i<k/\l[i]?=some y/\y.name=x.name then 5 else
   if(0<=x.cost/\x.cost<=99)/\(0<=x.bL/\x.bL<=3)/\(0<=x.lo/\x.lo<=x.hi/\x.hi<=20)/\x.hi-x.lo<4 then jZ x.fits p else 1)else 4
noncomputable def bD (p:Int) (l:List Part):Int:=if 1<=l.length/\l.length<=5 then scan (cN p l) l.length else 2
section
variable {p:Int} {l:List Part} {k:Nat} {x:Part}
theorem Rh (hx:l[k]?=some x) (h:¬jj x.name):cN p l k=4:=by unfold cN;rw[hx];simp only;rw[if_neg h]
theorem Ri (hx:l[k]?=some x) (h:jj x.name) {i:Nat} {y:Part} (hi:i<k) (hy:l[i]?=some y) (hn:y.name=x.name):cN p l k=5:=by
 unfold cN;rw[hx];simp only;rw[if_pos h,if_pos ⟨i,y,hi,hy,hn⟩]
theorem Cm (hx:l[k]?=some x) (h:jj x.name) (hn:fZ l x.name k) (h2:¬((0<=x.cost/\x.cost<=99)/\(0<=x.bL/\x.bL<=3)/\(0<=x.lo/\x.lo<=x.hi/\x.hi<=20)/\x.hi-x.lo<4)):cN p l k=1:=by
 unfold cN;rw[hx];simp only;rw[if_pos h,if_neg (fun⟨i,y,hi,hy,e⟩=>hn i y hi hy e),if_neg h2]
theorem Jp (hx:l[k]?=some x) (h:jj x.name) (hn:fZ l x.name k) (h2:(0<=x.cost/\x.cost<=99)/\(0<=x.bL/\x.bL<=3)/\(0<=x.lo/\x.lo<=x.hi/\x.hi<=20)/\x.hi-x.lo<4):cN p l k=jZ x.fits p:=by
 unfold cN;rw[hx];simp only;rw[if_pos h,if_neg (fun⟨i,y,hi,hy,e⟩=>hn i y hi hy e),if_pos h2]
theorem Cn (hm:1<=l.length/\l.length<=5):bD p l=scan (cN p l) l.length:=by unfold bD;rw[if_pos hm]
end
end Go.Proofs.Cz
