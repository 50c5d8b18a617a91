/- A part. Conditions: none. -/
import Derived.Test.YthmokljbbkcjdaaGreatDoorT24
import Derived.WalkSpells
import Derived.WalkLawsBesides
import Derived.Deep.QuietTactic
import Derived.BigQuiet
import Derived.Deep.LoopGhost
set_option linter.all false
set_option maxHeartbeats 8000000
namespace Go.Proofs.Cz
open Go.RowKit
variable {A:Prop} {B k:Nat} {a w w1:World} {b s:ByteArray} {l:List Part} {o:Obj} {v:Value} {x:Part} {y:Int}
def dq (w:World) (P:Bool->Prop) (e:Ending) (w':World):Prop:=(∃r,e=.returned (.bool r)/\P r)/\Below w.heap.size w w'
theorem dq.mk {w w':World} {P:Bool->Prop} {r:Bool} (h:P r) (hb:Below w.heap.size w w'):dq w P (.returned (.bool r)) w':=⟨⟨r,rfl,h⟩,hb⟩
theorem Kp.alloc (w:World) (o:Obj):Kp w (w.alloc o):=fun k hk=>Below.heap_alloc w o k hk
theorem bS.elem {α:Type} {l:List α} {a:Option Addr} {cap:Nat} (h:bS w v l.length a cap) {p:Addr->Nat->α->Prop} (hp:∀b,a=some b->∀j x,l[j]?=some x->p b j x) (hk:k<l.length):
 ∃b x,a=some b/\l[k]?=some x/\p b k x:=by
 cases a with
 |none=>have:=h.nil rfl;have:=h.le;omega
 |some b=>exact⟨b,l[k],rfl,List.getElem?_eq_getElem hk,hp b rfl k _ (List.getElem?_eq_getElem hk)⟩
def mi (l:List Part) (k:Nat):Prop:=∀j x,j<k->l[j]?=some x->x.name.size<=100
theorem mi.succ (h:mi l k) (hx:l[k]?=some x) (h1:x.name.size<=100):mi l (k+1):=fun j y hj hy=>by
 by_cases e:j=k
 .subst e;rw[hx]at hy;cases hy;exact h1
 .exact h j y (by omega) hy
abbrev rj (b:aS):Prop:=mi b.parts b.parts.length
theorem Bj (w:World) (v:Value) (b:aS) (hb:ar w v b):
 Calls ZP 40 #[v] w (dq w fun r=>r=false->rj b):=by
 obtain⟨v2,v3,v4,rfl,⟨a2,c2,h2,f2⟩,⟨a3,c3,h3,f3⟩,⟨a4,c4,h4,f4⟩⟩:=hb;have H2:Hid (bS w v2 b.parts.length a2 c2/\_):=⟨h2,f2⟩
 have H4:Hid (bS w v4 b.aa.length a4 c4/\_):=⟨h4,f4⟩
 obtain⟨rfl,l2,m2,n2,r2⟩:=h2;obtain⟨rfl,l3,m3,n3,r3⟩:=h3;obtain⟨rfl,l4,m4,n4,r4⟩:=h4;unfold maxLen at m2 m3 m4;clear r2 r3 r4 f2 f3 f4 n2 n3 n4;go_enter ZF40,Tryz.ntmps40
 go_wp2
 all_goals try(go_ret;refine dq.mk (fun h=>by cases h) ((Below.refl _ _).alloc (Nat.le_refl _) _))
 go_loop [3] (fun i=>∃k:Nat,k<=b.parts.length/\Hid (mi b.parts k)/\i=.int .i64 k) (fun i=>b.parts.length-(intOf i).toNat)
 case atStart=>exact⟨0,Nat.zero_le _,(fun j x h=>by omega),rfl⟩
 case round=>
  obtain⟨k,hk,hN,rfl⟩:=hrel;by_cases ap:k<b.parts.length
  .obtain⟨⟨blk,off,sp⟩,x,rfl,hx,x0,x1,x2,x3,x4,vf,x5,af,cf,hf,_⟩:=H2.o.1.elem H2.o.2 ap;obtain rfl:sp=none:=x0.1;obtain⟨rfl,lf,mf,_,_⟩:=hf;have y0:=(x0.later (Kp.alloc w (.cells #[.int .i64 b.am,.int .i64 b.places,.slice (some ⟨blk,off,none⟩) b.parts.length c2,.slice a3 b.apart.length c3,.slice a4 b.aa.length c4] 26))).2;have y5:=(x5.later (Kp.alloc w (.cells #[.int .i64 b.am,.int .i64 b.places,.slice (some ⟨blk,off,none⟩) b.parts.length c2,.slice a3 b.apart.length c3,.slice a4 b.aa.length c4] 26))).2;simp only[<-Nat.add_assoc]at y0 y5;clear x0 x1 x2 x3 x4 x5;have HX:=hid hx;go_wp2
   all_goals try(go_ret;refine dq.mk (fun h=>by cases h) ((Below.refl _ _).alloc (Nat.le_refl _) _))
   go_round
   case rel=>exact⟨k+1,by omega,hN.o.succ HX.o (by omega),by go_num⟩
   case measure=>simp[intOf];omega
  .have hN:Hid (rj b):=by have e:k=b.parts.length:=by omega
                          subst e;exact hN.o
   go_wp2
   go_loop [4] (fun i=>∃k:Nat,k<=b.aa.length/\i=.int .i64 k) (fun i=>b.aa.length-(intOf i).toNat)
   case atStart=>exact⟨0,Nat.zero_le _,rfl⟩
   case round=>
    obtain⟨k,hk,rfl⟩:=hrel;by_cases ap:k<b.aa.length
    .obtain⟨⟨blk,off,sp⟩,x,rfl,hx,⟨vf,x0,af,cf,hf,_⟩,_⟩:=H4.o.1.elem H4.o.2 ap;obtain rfl:sp=none:=x0.1;obtain⟨rfl,lf,mf,_,_⟩:=hf;have y0:=(x0.later (Kp.alloc w (.cells #[.int .i64 b.am,.int .i64 b.places,.slice a2 b.parts.length c2,.slice a3 b.apart.length c3,.slice (some ⟨blk,off,none⟩) b.aa.length c4] 26))).2;simp only at y0;clear x0;go_wp2
     all_goals try(go_ret;refine dq.mk (fun h=>by cases h) ((Below.refl _ _).alloc (Nat.le_refl _) _))
     go_round
     case rel=>exact⟨k+1,by omega,by go_num⟩
     case measure=>simp[intOf];omega
    .go_wp2
     all_goals(go_ret;exact dq.mk (fun _=>hN.o) ((Below.refl _ _).alloc (Nat.le_refl _) _))
def kA (w:World) (v:Value) (e:Ending) (w':World):Prop:=e=.returned v/\w'=w
theorem kA.of (v':Value) (h:v'=v):kA w v (.returned v') w:=⟨by rw[h],rfl⟩
theorem dq.eq {w':World} {P:Bool->Prop} {r:Bool} (h:P r) (hb:Below w.heap.size w w') (e:v=.bool r):dq w P (.returned v) w':=by subst e;exact .mk h hb
def Tr (r:Bool) (A:Prop):Prop:=r=true↔A
theorem Tr.t (h:Tr true A):A:=h.1 rfl
theorem Tr.f (h:Tr false A):¬A:=fun a=>Bool.noConfusion (h.2 a)
theorem Tr.yes (h:A):Tr true A:=⟨fun _=>h,fun _=>rfl⟩
theorem Tr.no (h:¬A):Tr false A:=⟨fun h=>Bool.noConfusion h,fun a=>absurd a h⟩
def cO (w:World) (P:Bool->Prop) (e:Ending) (w':World):Prop:=∃r,e=.returned (.bool r)/\P r/\w'=w
def Jo (w:World) (o:Obj) (P:Bool->Prop) (e:Ending) (w':World):Prop:=∃r,e=.returned (.bool r)/\P r/\w'=w.alloc o
def Pn (w:World) (P:Int->Prop) (e:Ending) (w':World):Prop:=∃r n,e=.returned (.int .i64 r)/\P r/\w'=w.drewN n
theorem cO.mk {w:World} {P:Bool->Prop} {r:Bool} (h:P r):cO w P (.returned (.bool r)) w:=⟨r,rfl,h,rfl⟩
theorem cP (n a b:Int) (w:World):Calls ZP 75 #[.int .i64 n,.int .i64 a,.int .i64 b] w (kA w (.bool (decide (a<=n)&&decide (n<=b)))):=by
 by_cases h1:a<=n<;>by_cases h2:n<=b
 all_goals
  go_enter ZF75,Tryz.ntmps75
  go_wp2
  go_ret;exact⟨by simp[h1,h2],rfl⟩
theorem mY (n a b:Int) (w:World):Calls ZP 19 #[.int .i64 n,.int .i64 a,.int .i64 b] w (kA w (.bool (decide (a<=n)&&decide (n<=b)))):=by
 by_cases h1:a<=n<;>by_cases h2:n<=b
 all_goals
  go_enter ZF19,Tryz.ntmps19
  go_wp2
  go_ret;exact⟨by simp[h1,h2],rfl⟩
theorem ye (c:Int) (w:World):Calls ZP 128 #[.int .u8 c] w (kA w (.bool (decide (97<=c)&&decide (c<=122)))):=by
 by_cases h1:97<=c<;>by_cases h2:c<=122
 all_goals
  go_enter ZF128,Tryz.ntmps128
  go_wp2
  go_ret;exact⟨by simp[h1,h2],rfl⟩
theorem Bl (c:Int) (w:World):Calls ZP 129 #[.int .u8 c] w (kA w (.bool (decide (48<=c)&&decide (c<=57)))):=by
 by_cases h1:48<=c<;>by_cases h2:c<=57
 all_goals
  go_enter ZF129,Tryz.ntmps129
  go_wp2
  go_ret;exact⟨by simp[h1,h2],rfl⟩
theorem px (lo hi a b:Int) (w:World):Calls ZP 87 #[.agg #[.int .i64 lo,.int .i64 hi],.int .i64 a,.int .i64 b] w (Jo w (.cells #[.int .i64 lo,.int .i64 hi] 31) fun r=>Tr r (a<=lo/\lo<=hi/\hi<=b)):=by
 by_cases h1:a<=lo<;>by_cases h2:lo<=hi<;>by_cases h3:hi<=b
 all_goals
  go_enter ZF87,Tryz.ntmps87
  go_wp2
  go_ret;exact⟨_,rfl,by unfold Tr;simp[h1,h2,h3],rfl⟩
theorem kZ (lo hi a b m:Int) (hb:0<=a/\b<=1000) (w:World):Calls ZP 70 #[.agg #[.int .i64 lo,.int .i64 hi],.int .i64 a,.int .i64 b,.int .i64 m] w (Jo w (.cells #[.int .i64 lo,.int .i64 hi] 31) fun r=>Tr r (a<=lo/\lo<=hi/\hi<=b/\hi-lo<m)):=by
 by_cases h1:a<=lo<;>by_cases h2:lo<=hi<;>by_cases h3:hi<=b
 all_goals
  go_enter ZF70,Tryz.ntmps70
  go_wp2
  go_ret;refine⟨_,rfl,?_,rfl⟩;unfold Tr
  first
   |(have e:wrap64 (hi-lo)=hi-lo:=by unfold wrap64;omega
     simp[h1,h2,h3,e])
   |(simp[h1,h2,h3];done)
   |(simp[h1,h2,h3];omega)
def bY (w:World) (P:Int->Prop) (e:Ending) (w':World):Prop:=(∃r,e=.returned (.int .i64 r)/\P r)/\Below w.heap.size w w'
theorem bY.mk {w w':World} {P:Int->Prop} {r:Int} (h:P r) (hb:Below w.heap.size w w'):bY w P (.returned (.int .i64 r)) w':=⟨⟨r,rfl,h⟩,hb⟩
def gG (l:List Int) (x:Int) (k:Nat):Prop:=∀j y,j<k->l[j]?=some y->y≠x
theorem gG.zero (l:List Int) (x:Int):gG l x 0:=fun j y h=>by omega
theorem gG.succ {l:List Int} {x:Int} (h:gG l x k) (hy:l[k]?=some y) (bE:y≠x):gG l x (k+1):=fun j z hj hz=>by
 by_cases e:j=k
 .subst e;rw[hy]at hz;cases hz;exact bE
 .exact h j z (by omega) hz
theorem gG.all {l:List Int} {x:Int} (h:gG l x l.length):x∉l:=fun hm=>by
 obtain⟨j,hj,rfl⟩:=List.getElem_of_mem hm;exact h j _ hj (List.getElem?_eq_getElem hj) rfl
theorem zK (w:World) (v:Value) (l:List Int) (x:Int) (h:ao w v l):Calls ZP 20 #[v,.int .i64 x] w (kA w (.bool (decide (x∈l)))):=by
 obtain⟨a,c,h1,h2⟩:=h;have H:Hid (bS w v l.length a c/\_):=⟨h1,h2⟩
 obtain⟨rfl,l1,m1,n1,r1⟩:=h1;unfold maxLen at m1;clear h2 n1 r1;go_enter ZF20,Tryz.ntmps20
 go_wp2
 go_loop [5] (fun i=>∃k:Nat,k<=l.length/\Hid (gG l x k)/\i=.int .i64 k) (fun i=>l.length-(intOf i).toNat)
 case atStart=>exact⟨0,Nat.zero_le _,gG.zero l x,rfl⟩
 case round=>
  obtain⟨k,hk,hN,rfl⟩:=hrel;by_cases ap:k<l.length
  .obtain⟨⟨blk,off,sp⟩,y,rfl,hy,y0⟩:=H.o.1.elem H.o.2 ap;obtain rfl:sp=none:=y0.1;have g0:=y0.2;simp only at g0;have HY:=hid hy;clear y0 hy;by_cases e:y=x
   .go_wp2
    go_ret;exact kA.of (.bool true) (by rw[decide_eq_true (e▸List.mem_of_getElem? HY.o)])
   .go_wp2
    go_round
    case rel=>exact⟨k+1,by omega,hN.o.succ HY.o e,by go_num⟩
    case measure=>simp[intOf];omega
  .have e:k=l.length:=by omega
   subst e;go_wp2
   go_ret;exact kA.of (.bool false) (by rw[decide_eq_false hN.o.all])
def fB (l:List Int) (n:Int) (k:Nat):Prop:=∀j y,j<k->l[j]?=some y->0<=y/\y<=n-1/\∀z,0<j->l[j-1]?=some z->z<y
theorem fB.zero (l:List Int) (n:Int):fB l n 0:=fun j y h=>by omega
theorem fB.succ {l:List Int} {n:Int} (h:fB l n k) (hy:l[k]?=some y) (h1:0<=y/\y<=n-1) (h2:∀z,0<k->l[k-1]?=some z->z<y):fB l n (k+1):=fun j z hj hz=>by
 by_cases e:j=k
 .subst e;rw[hy]at hz;cases hz;exact⟨h1.1,h1.2,h2⟩
 .exact h j z (by omega) hz
abbrev yf (l:List Int) (n:Int):Prop:=fB l n l.length
theorem Below.drewN (h:Below B a w) (n:Nat):Below B a (w.drewN n):=⟨h.os,h.tape,h.output,h.size,h.block⟩
theorem yh (w:World) (v:Value) (l:List Int) (n:Int) (hn:0<=n/\n<=1000) (h:ao w v l):Calls ZP 13 #[v,.int .i64 n] w (Pn w fun s=>s=0↔yf l n):=by
 obtain⟨a,c,h1,h2⟩:=h;have H:Hid (bS w v l.length a c/\_):=⟨h1,h2⟩
 obtain⟨rfl,l1,m1,n1,r1⟩:=h1;unfold maxLen at m1;clear h2 n1 r1;go_enter ZF13,Tryz.ntmps13
 go_wp2
 go_loopw [5] (fun i w1=>∃k:Nat,k<=l.length/\Hid (fB l n k)/\i=.int .i64 k/\∃n,w1=w.drewN n) (fun i _=>l.length-(intOf i).toNat)
 case atStart=>exact⟨0,Nat.zero_le _,fB.zero l n,rfl,0,rfl⟩
 case round=>
  obtain⟨k,hk,hN,rfl,n0,rfl⟩:=hrel;by_cases ap:k<l.length
  .obtain⟨⟨blk,off,sp⟩,y,rfl,hy,y0⟩:=H.o.1.elem H.o.2 ap;obtain rfl:sp=none:=y0.1;have g0:=y0.2;simp only at g0;have HY:=hid hy;have hw:wrap64 (n-1)=n-1:=by unfold wrap64;omega
   clear y0 hy;by_cases e1:0<=y/\y<=n-1
   .obtain⟨e1,e2⟩:=e1;by_cases wn:0<k
    .obtain⟨b',z,Bm,hz,z0⟩:=H.o.1.elem H.o.2 (show k-1<l.length by omega);cases Bm;have g1:=z0.2;simp only at g1;go_wp2_with(go_at_call 19;refine(mY _ _ _ _).mono ?_;rintro e w' ⟨rfl,rfl⟩)
     have qz:wrap64 ((k:Int)-1)=((k-1:Nat):Int):=by unfold wrap64;omega
     have lY:(0:Int)<(k:Int):=by omega
     have j7:((k-1:Nat):Int)<(l.length:Int):=by omega
     have ol:(k:Int)<(l.length:Int):=by omega
     by_cases hzy:y<=z
     .go_quiet (fail)
      go_wp2
      go_ret;refine⟨7,_,rfl,⟨(fun h=>by cases h),fun h=>?_⟩,by simp only[World.drewN_drewN];rfl⟩;have:=(h k y ap HY.o).2.2 z wn hz;omega
     .go_quiet (fail)
      go_wp2
      go_round
      case rel=>exact⟨k+1,by omega,hN.o.succ HY.o ⟨e1,e2⟩ (fun z' _ h=>by rw[hz]at h;cases h;omega),by go_num,_,rfl⟩
      case measure=>simp[intOf];omega
    .have lY:¬(0:Int)<(k:Int):=by omega
     have ol:(k:Int)<(l.length:Int):=by omega
     go_wp2_with(go_at_call 19;refine(mY _ _ _ _).mono ?_;rintro e w' ⟨rfl,rfl⟩)
     go_quiet (fail)
     go_wp2
     go_round
     case rel=>exact⟨k+1,by omega,hN.o.succ HY.o ⟨e1,e2⟩ (fun z' h _=>by omega),by go_num,_,rfl⟩
     case measure=>simp[intOf];omega
   .have e2:(decide (0<=y)&&decide (y<=n-1))=false:=by
     cases hd:(decide (0<=y)&&decide (y<=n-1))with
     |false=>rfl
     |true=>exact absurd (by simpa using hd) e1
    have E1:=hid e1;clear e1;go_wp2_with(go_at_call 19;refine(mY _ _ _ _).mono ?_;rintro e w' ⟨rfl,rfl⟩)
    go_ret;refine⟨6,_,rfl,⟨(fun h=>by cases h),fun h=>?_⟩,rfl⟩;have:=h k y ap HY.o;exact absurd ⟨this.1,this.2.1⟩ E1.o
  .have e:k=l.length:=by omega
   subst e;go_wp2
   go_ret;exact⟨0,_,rfl,⟨fun _=>hN.o,fun _=>rfl⟩,rfl⟩
def tg (c:Int):Prop:=97<=c/\c<=122
def zL (c:Int):Prop:=48<=c/\c<=57
def py (s:ByteArray) (k:Nat):Prop:=∀j (hj:j<s.size),j<k->tg (s[j].toNat)\/0<j/\zL (s[j].toNat)
def th (s:ByteArray):Prop:=1<=s.size/\s.size<=10/\py s s.size
theorem py.succ (h:py s k) (hk:k<s.size) (h1:tg (s[k].toNat)\/0<k/\zL (s[k].toNat)):py s (k+1):=fun j hj ns=>by
 by_cases e:j=k
 .subst e;exact h1
 .exact h j hj (by omega)
theorem vI (w:World) (c:Int):Calls ZP 128 #[.int .u8 c] w (cO w fun r=>Tr r (tg c)):=(ye c w).mono fun _ _ h=>⟨_,h.1,(by unfold Tr;simp[tg]),h.2⟩
theorem GR (w:World) (c:Int):Calls ZP 129 #[.int .u8 c] w (cO w fun r=>Tr r (zL c)):=(Bl c w).mono fun _ _ h=>⟨_,h.1,(by unfold Tr;simp[zL]),h.2⟩
theorem GS (w:World) (n a b:Int):Calls ZP 19 #[.int .i64 n,.int .i64 a,.int .i64 b] w (cO w fun r=>Tr r (a<=n/\n<=b)):=(mY n a b w).mono fun _ _ h=>⟨_,h.1,(by unfold Tr;simp),h.2⟩
theorem DY (w:World) (n a b:Int):Calls ZP 75 #[.int .i64 n,.int .i64 a,.int .i64 b] w (cO w fun r=>Tr r (a<=n/\n<=b)):=(cP n a b w).mono fun _ _ h=>⟨_,h.1,(by unfold Tr;simp),h.2⟩
theorem yi (w:World) (s:ByteArray) (hs:s.size<=maxLen):Calls ZP 109 #[.string s] w (cO w fun r=>Tr r (th s)):=by
 unfold maxLen at hs;go_enter ZF109,Tryz.ntmps109
 by_cases h1:(s.size:Int)<1
 .go_wp2
  go_ret;exact cO.mk (.no fun h=>by have:=h.1;omega)
 by_cases h2:(s.size:Int)>10
 .go_wp2
  go_ret;exact cO.mk (.no fun h=>by have:=h.2.1;omega)
 go_wp2
 go_loop [3] (fun i=>∃k:Nat,k<=s.size/\Hid (py s k)/\i=.int .i64 k) (fun i=>s.size-(intOf i).toNat)
 case atStart=>exact⟨0,Nat.zero_le _,(fun j _ h=>by omega),rfl⟩
 case round=>
  obtain⟨k,hk,hN,rfl⟩:=hrel;by_cases ap:k<s.size
  .have HL:Hid (k<s.size):=ap;by_cases wn:(k:Int)=0
   .have qz:k=0:=by omega
    go_wp2_with(go_at_call 128;refine(vI _ _).mono ?_;rintro e w' ⟨r,rfl,hr,rfl⟩;cases r)
    .go_ret;refine cO.mk (.no fun h=>?_);rcases h.2.2 0 (by omega) (by omega)with h|h
     .exact hr.f h
     .omega
    .go_round
     case rel=>subst qz;exact⟨0+1,by omega,hN.o.succ HL.o (.inl hr.t),by go_num⟩
     case measure=>simp[intOf];omega
   .go_wp2_with(first|(go_at_call 128;refine(vI _ _).mono ?_;rintro e w' ⟨r,rfl,hr,rfl⟩;cases r)|(go_at_call 129;refine(GR _ _).mono ?_;rintro e w' ⟨r,rfl,pN,rfl⟩;cases r))
    .go_ret;refine cO.mk (.no fun h=>?_);rcases h.2.2 k (by omega) (by omega)with h|h
     .exact hr.f h
     .exact pN.f h.2
    .go_round
     case rel=>exact⟨k+1,by omega,hN.o.succ HL.o (.inr ⟨by omega,pN.t⟩),by go_num⟩
     case measure=>simp[intOf];omega
    .go_round
     case rel=>exact⟨k+1,by omega,hN.o.succ HL.o (.inl hr.t),by go_num⟩
     case measure=>simp[intOf];omega
  .obtain rfl:k=s.size:=by omega
   go_wp2
   go_ret;refine cO.mk (.yes ⟨by omega,by omega,hN.o⟩)
structure ti (places:Int) (x:Part):Prop where
 name:th x.name
 cost:0<=x.cost/\x.cost<=99
 cm:0<=x.cm/\x.cm<=3
 time:0<=x.lo/\x.lo<=x.hi/\x.hi<=20
 wide:x.hi-x.lo<4
 GT:yf x.fits places
def iU (places:Int) (l:List Part) (k:Nat):Prop:=∀j x,j<k->l[j]?=some x->ti places x/\∀i y,i<j->l[i]?=some y->y.name≠x.name
theorem iU.zero (p:Int) (l:List Part):iU p l 0:=fun j x h=>by omega
theorem iU.succ {p:Int} (h:iU p l k) (hx:l[k]?=some x) (h1:ti p x) (h2:∀i y,i<k->l[i]?=some y->y.name≠x.name):iU p l (k+1):=fun j y hj hy=>by
 by_cases e:j=k
 .subst e;rw[hx]at hy;cases hy;exact⟨h1,h2⟩
 .exact h j y (by omega) hy
structure tn (b:aS):Prop where
 many:1<=b.parts.length/\b.parts.length<=5
 all:iU b.places b.parts b.parts.length
def lg (l:List Part) (s:ByteArray) (k:Nat):Prop:=∀j y,j<k->l[j]?=some y->y.name≠s
theorem lg.zero (l:List Part) (s:ByteArray):lg l s 0:=fun j y h=>by omega
theorem lg.succ (h:lg l s k) (hx:l[k]?=some x) (bE:x.name≠s):lg l s (k+1):=fun j y hj hy=>by
 by_cases e:j=k
 .subst e;rw[hx]at hy;cases hy;exact bE
 .exact h j y (by omega) hy
theorem boxed {cs:Array Value} {t:Nat} (h:Below (w.heap.size+1) (w.alloc (.cells cs t)) w1) (k:Nat):w1.cell? ⟨w.heap.size,k,none⟩=cs[k]?:=by
 have:=h.block w.heap.size (by omega);have h2:w1.heap[w.heap.size]?=some (.cells cs t):=this.trans (by show(w.heap.push _)[w.heap.size]?=_;simp);simp only[World.cell?,h2];rfl
theorem dK {a:Addr} (h:a.block<w.heap.size) (o:Obj):(w.alloc o).cell? a=w.cell? a:=World.cell?_of_block (Kp.alloc w o _ h)
theorem DZ {a:Addr} (h:a.block<w.heap.size) (o o2:Obj) (n:Nat):(((w.alloc o).drewN n).alloc o2).cell? a=w.cell? a:=(dK (by simp;omega) o2).trans (dK h o)
theorem Kp.two (w:World) (o o2:Obj) (n:Nat):Kp w (((w.alloc o).drewN n).alloc o2):=fun k hk=>(Kp.alloc ((w.alloc o).drewN n) o2 k (by simp;omega)).trans (Kp.alloc w o k hk)
theorem Below.one (h:Below B a w) (hs:B<=w.heap.size) (o:Obj) (n:Nat):Below B a ((w.alloc o).drewN n):=Below.drewN (h.alloc hs o) n
theorem Below.two (h:Below B a w) (hs:B<=w.heap.size) (o o2:Obj) (n m:Nat):Below B a ((((w.alloc o).drewN n).alloc o2).drewN m):=Below.drewN (Below.alloc (Below.one h hs o n) (by simp;omega) o2) m
theorem bad {r:Int} (h0:r≠0) (h:¬A):r=0↔A:=⟨fun h=>absurd h h0,fun a=>absurd a h⟩
theorem zM {a:ByteArray} (h:(a.toList==b.toList)=true):a=b:=by
 have h2:=eq_of_beq h;rw[ByteArray.toList_eq,ByteArray.toList_eq]at h2;cases a;cases b;simpa using h2
theorem GU {a:ByteArray} (h:(a.toList==b.toList)=false):a≠b:=fun e=>by subst e;simp at h
theorem Kp.boxed (h:Below (w.heap.size+1) (w.alloc o) w1):Kp w w1:=fun k hk=>(h.block k (by omega)).trans (Below.heap_alloc w o k hk)
theorem Below.boxed (h:Below (w.heap.size+1) (w.alloc o) w1):Below w.heap.size w w1:=((Below.refl _ _).alloc (Nat.le_refl _) o).trans (h.mono (Nat.le_succ _))
theorem pz (w:World) (v:Value) (b:aS) (hb:ar w v b) (hs:rj b) (hp:1<=b.places/\b.places<=4):
 Calls ZP 84 #[v] w (bY w fun s=>s=0↔tn b):=by
 obtain⟨v2,v3,v4,rfl,⟨a2,c2,h2,f2⟩,h3,h4⟩:=hb;have H2:Hid (bS w v2 b.parts.length a2 c2/\_):=⟨h2,f2⟩
 obtain⟨rfl,l2,m2,n2,r2⟩:=h2;unfold maxLen at m2;clear r2 f2 n2 h3 h4;go_enter ZF84,Tryz.ntmps84
 go_wp2_with(go_at_call 19;refine(GS _ _ _ _).mono ?_;rintro e w' ⟨r,rfl,hr,rfl⟩;cases r)
 .go_ret;exact bY.mk (r:=2) ⟨(fun h=>by cases h),fun h=>absurd (by have:=h.many;omega) hr.f⟩ ((Below.refl _ _).alloc (Nat.le_refl _) _)
 have hm:=hr.t;go_loopw [3] (fun i w1=>∃k:Nat,k<=b.parts.length/\Hid (iU b.places b.parts k)/\i=.int .i64 k/\Hid (Below (w.heap.size+1) (w.alloc (.cells #[.int .i64 b.am,.int .i64 b.places,.slice a2 b.parts.length c2,v3,v4] 26)) w1)) (fun i _=>b.parts.length-(intOf i).toNat)
 case atStart=>exact⟨0,Nat.zero_le _,.zero _ _,rfl,Below.refl _ _⟩
 case round=>
  obtain⟨k,hk,hN,rfl,hB⟩:=hrel;have g1:=boxed hB.o 1;have g2:=boxed hB.o 2;simp only[List.getElem?_toArray,List.getElem?_cons_succ,List.getElem?_cons_zero]at g1 g2;by_cases ap:k<b.parts.length
  .obtain⟨⟨blk,off,sp⟩,x,rfl,hx,x0,x1,x2,x3,x4,vf,x5,x6⟩:=H2.o.1.elem H2.o.2 ap;obtain rfl:sp=none:=x0.1;have x7:=x6.later (Kp.boxed hB.o);obtain⟨af,cf,hf,_⟩:=x6;obtain⟨rfl,_,_,_,_⟩:=hf;have HX:Hid (b.parts[k]?=some x/\ao wr (.slice af x.fits.length cf) x.fits):=⟨hx,x7⟩
   have cq:x.name.size<=maxLen:=by have:=hs k x ap hx;unfold maxLen;omega
   have y0:=(x0.later (Kp.boxed hB.o)).2;have y1:=(x1.later (Kp.boxed hB.o)).2;have y2:=(x2.later (Kp.boxed hB.o)).2;have y3:=(x3.later (Kp.boxed hB.o)).2;have y4:=(x4.later (Kp.boxed hB.o)).2;have y5:=(x5.later (Kp.boxed hB.o)).2;simp only[<-Nat.add_assoc]at y0 y1 y2 y3 y4 y5;have mS:w.heap.size+1<=wr.heap.size:=by have:=hB.o.size;simp at this;omega
   have rc:blk<w.heap.size:=x0.lt;have g1':∀o o2 n,(((wr.alloc o).drewN n).alloc o2).cell? ⟨w.heap.size,1,none⟩=some (.int .i64 b.places):=fun o o2 n=>(DZ (by show w.heap.size<_;omega) o o2 n).trans g1;have NG:∀o,(wr.alloc o).cell? ⟨w.heap.size,2,none⟩=some (.slice (some ⟨blk,off,none⟩) b.parts.length c2):=fun o=>(dK (by show w.heap.size<_;omega) o).trans g2;clear x0 x1 x2 x3 x4 x5 x7 hx;go_wp2_with(go_at_call 109;refine(yi _ _ cq).mono ?_;rintro e w' ⟨r,rfl,hr,rfl⟩;cases r)
   .go_ret;exact bY.mk (r:=4) ⟨(fun h=>by cases h),fun h=>absurd (h.all k x ap HX.o.1).1.name hr.f⟩ ((Below.boxed hB.o).alloc (by have:=hB.o.size;simp at this;omega) _)
   have HR:Hid (th x.name):=hr.t;have pA:=hid ap;clear hr;go_loopw [5] (fun i w2=>∃m:Nat,m<=k/\Hid (lg b.parts x.name m)/\i=.int .i64 m/\∃n,w2=(wr.alloc (.cells #[.string x.name,.int .i64 x.cost,.int .i64 x.cm,.int .i64 x.lo,.int .i64 x.hi,.slice af x.fits.length cf] 34)).drewN n) (fun i _=>k-(intOf i).toNat)
   case atStart=>exact⟨0,Nat.zero_le _,.zero _ _,rfl,0,rfl⟩
   case round=>
    obtain⟨m,Xd,hM,rfl,n0,rfl⟩:=hrel;by_cases gQ:m<k
    .obtain⟨b',y,Bm,hy,z0,z5⟩:=H2.o.1.elem H2.o.2 (show m<b.parts.length by have:=pA.o;omega);cases Bm;have q0:=((z0.later (Kp.boxed hB.o)).later (Kp.alloc wr (.cells #[.string x.name,.int .i64 x.cost,.int .i64 x.cm,.int .i64 x.lo,.int .i64 x.hi,.slice af x.fits.length cf] 34))).2;simp only at q0;have HY:=hid hy;have Po:(m:Int)<(k:Int):=by omega
     have Re:(m:Int)<(b.parts.length:Int):=by omega
     clear hy z0 z5;go_wp2
     go_quiet (fail)
     go_wp2
     .rename_i BP;have e:y.name=x.name:=zM BP;go_ret;exact bY.mk (r:=5) (bad (by decide) fun h=>(h.all k x pA.o HX.o.1).2 m y gQ HY.o e) (Below.drewN (Below.one (Below.boxed hB.o) (by omega) _ _) _)
     .rename_i BP;have e:Hid (y.name≠x.name):=GU BP;clear BP;go_round
      case rel=>exact⟨m+1,by omega,hM.o.succ HY.o e.o,by go_num,_,rfl⟩
      case measure=>simp[intOf];omega
    .have Rf:ao ((((wr.alloc (.cells #[.string x.name,.int .i64 x.cost,.int .i64 x.cm,.int .i64 x.lo,.int .i64 x.hi,.slice af x.fits.length cf] 34)).drewN n0).alloc (.cells #[.int .i64 x.lo,.int .i64 x.hi] 31))) (.slice af x.fits.length cf) x.fits:=
      HX.o.2.later (Kp.two wr _ _ _)
     have wq:0<=b.places/\b.places<=1000:=by omega
     go_wp2_with(first
      |(go_at_call 19;refine(GS _ _ _ _).mono ?_;rintro e w' ⟨r,rfl,hr,rfl⟩;cases r)
      |(go_at_call 87;refine(px _ _ _ _ _).mono ?_;rintro e w' ⟨r,rfl,hr,rfl⟩;cases r)
      |(go_at_call 13;refine(yh _ _ _ _ wq Rf).mono ?_;rintro e w' ⟨r,n1,rfl,pN,rfl⟩;by_cases F5:r=0))
     .go_ret;exact bY.mk (r:=1) (bad (by decide) fun h=>hr.f (h.all k x pA.o HX.o.1).1.cost) (Below.one (Below.boxed hB.o) (by omega) _ _)
     .go_ret;exact bY.mk (r:=1) (bad (by decide) fun h=>hr.f (h.all k x pA.o HX.o.1).1.cm) (Below.one (Below.boxed hB.o) (by omega) _ _)
     .go_ret;exact bY.mk (r:=1) (bad (by decide) fun h=>hr.f (h.all k x pA.o HX.o.1).1.time) (Below.two (Below.boxed hB.o) (by omega) _ _ _ 0)
     .rename_i Pp;have ht:=hr.t;have e:¬x.hi-x.lo<4:=by unfold wrap64 at Pp;omega
      go_ret;exact bY.mk (r:=1) (bad (by decide) fun h=>e (h.all k x pA.o HX.o.1).1.wide) (Below.two (Below.boxed hB.o) (by omega) _ _ _ 0)
     .rename_i UF UG Pp;have ht:=hr.t;have e:x.hi-x.lo<4:=by unfold wrap64 at Pp;omega
      have HK:Hid (ti b.places x):=⟨HR.o,UF.t,UG.t,ht,e,pN.1 F5⟩
      clear e ht Pp hr pN
      have HM:Hid (lg b.parts x.name k):=(by have e:m=k:=by omega
                                             subst e;exact hM.o)
      go_round
      case rel=>exact⟨k+1,by omega,hN.o.succ HX.o.1 HK.o HM.o,by go_num,Below.two hB.o (by omega) _ _ _ _⟩
      case measure=>simp[intOf];omega
     .go_ret;exact bY.mk (bad F5 fun h=>F5 (pN.2 (h.all k x pA.o HX.o.1).1.GT)) (Below.two (Below.boxed hB.o) (by omega) _ _ _ _)
  .go_wp2
   go_ret;have e:k=b.parts.length:=by omega
   subst e;exact bY.mk (r:=0) ⟨fun _=>⟨by omega,hN.o⟩,fun _=>rfl⟩ (Below.boxed hB.o)
end Go.Proofs.Cz
