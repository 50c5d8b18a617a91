/- A part. Conditions: none. -/
import Derived.Test.YtddlcmejelobdaaGreatDoorT22
import Derived.Test.YtddlcmejelobdaaGreatDoorT23
import Derived.WalkSpells
import Derived.WalkLawsBesides
import Derived.Deep.QuietTactic
import Derived.BigQuiet
import Derived.Deep.LoopGhost
set_option linter.all false
set_option maxHeartbeats 8000000
namespace Go.Proofs.Cz
open Go.RowKit
variable {A:Prop} {B:Nat} {a w w1:nq} {b s:ByteArray} {n y:Int} {o:Obj} {v:fu}
def dq (w:nq) (P:Bool->Prop) (e:Ending) (w':nq):Prop:=(∃r,e=.returned (.bool r)/\P r)/\Below w.heap.size w w'
def dq.mk {w w':nq} {P:Bool->Prop} {r:Bool} (h:P r) (hb:Below w.heap.size w w'):dq w P (.returned (.bool r)) w':=⟨⟨r,rfl,h⟩,hb⟩
def Kp.alloc (w:nq) (o:Obj):Kp w (w.alloc o):=λk hk=>Below.heap_alloc w o k hk
def bT.elem {α:Type} {l:List α} {a:Option Addr} {cap:Nat} (h:bT w v l.length a cap) {p:Addr->Nat->α->Prop} (hp:∀b,a=some b->∀j x,l[j]?=some x->p b j x) {k:Nat} (hk:k<l.length):
 ∃b x,a=some b/\l[k]?=some x/\p b k x:=by
 cases a with
 |none=>have:=h.nil rfl;have:=h.le;omega
 |some b=>exact⟨b,l[k],rfl,zAJ hk,hp b rfl k _ (zAJ hk)⟩
def qu (l:List Part) (k:Nat):Prop:=∀j x,j<k->l[j]?=some x->x.name.size<=100
def qu.succ {l:List Part} {x:Part} {k:Nat} (h:qu l k) (hx:l[k]?=some x) (h1:x.name.size<=100):qu l (k+1):=λj y hj hy=>by
 by_cases e:j=k
 .subst e;rw[hx]at hy;cases hy;exact h1
 .exact h j y (by omega) hy
abbrev d9 (b:ab):Prop:=qu b.ptz b.ptz.length
def J9 (w:nq) (v:fu) (b:ab) (hb:ar w v b):
 Calls ZP 15 #[v] w (dq w λr=>r=false->d9 b):=by
 obtain⟨v2,v3,v4,rfl,⟨a2,c2,h2,f2⟩,⟨a3,c3,h3,f3⟩,⟨a4,c4,h4,f4⟩⟩:=hb;have H2:Hid (bT w v2 b.ptz.length a2 c2/\_):=⟨h2,f2⟩
 have H4:Hid (bT w v4 b.aX.length a4 c4/\_):=⟨h4,f4⟩
 obtain⟨rfl,l2,m2,n2,r2⟩:=h2;obtain⟨rfl,l3,m3,n3,r3⟩:=h3;obtain⟨rfl,l4,m4,n4,r4⟩:=h4;unfold maxLen at m2 m3 m4;clear r2 r3 r4 f2 f3 f4 n2 n3 n4;go_enter ZF15,Tryz.ntmps15
 go_wp2
 all_goals try(go_ret;refine dq.mk (λh=>by cases h) ((Below.refl _ _).alloc (zAB _) _))
 go_loop [3] (λi=>∃k:Nat,k<=b.ptz.length/\Hid (qu b.ptz k)/\i=.int .i64 k) (λi=>b.ptz.length-(intOf i).toNat)
 case atStart=>exact⟨0,zAM _,(λj x h=>by omega),rfl⟩
 case round=>
  obtain⟨k,hk,hN,rfl⟩:=hrel;by_cases av:k<b.ptz.length
  .obtain⟨⟨blk,off,sp⟩,x,rfl,hx,x0,x1,x2,x3,x4,vf,x5,af,cf,hf,_⟩:=H2.o.1.elem H2.o.2 av;obtain rfl:sp=none:=x0.1;obtain⟨rfl,lf,mf,_,_⟩:=hf;have y0:=(x0.later (Kp.alloc w (.cells #[.int .i64 b.ak,.int .i64 b.ah,.slice (some ⟨blk,off,none⟩) b.ptz.length c2,.slice a3 b.aL.length c3,.slice a4 b.aX.length c4] 26))).2;have y5:=(x5.later (Kp.alloc w (.cells #[.int .i64 b.ak,.int .i64 b.ah,.slice (some ⟨blk,off,none⟩) b.ptz.length c2,.slice a3 b.aL.length c3,.slice a4 b.aX.length c4] 26))).2;simp only[<-zBD]at y0 y5;clear x0 x1 x2 x3 x4 x5;have HX:=hid hx;go_wp2
   all_goals try(go_ret;refine dq.mk (λh=>by cases h) ((Below.refl _ _).alloc (zAB _) _))
   go_round
   case rel=>exact⟨k+1,by omega,hN.o.succ HX.o (by omega),by go_num⟩
   case measure=>simp[intOf];omega
  .have hN:Hid (d9 b):=by have e:k=b.ptz.length:=by omega
                          subst e;exact hN.o
   go_wp2
   go_loop [4] (λi=>∃k:Nat,k<=b.aX.length/\i=.int .i64 k) (λi=>b.aX.length-(intOf i).toNat)
   case atStart=>exact⟨0,zAM _,rfl⟩
   case round=>
    obtain⟨k,hk,rfl⟩:=hrel;by_cases av:k<b.aX.length
    .obtain⟨⟨blk,off,sp⟩,x,rfl,hx,⟨vf,x0,af,cf,hf,_⟩,_⟩:=H4.o.1.elem H4.o.2 av;obtain rfl:sp=none:=x0.1;obtain⟨rfl,lf,mf,_,_⟩:=hf;have y0:=(x0.later (Kp.alloc w (.cells #[.int .i64 b.ak,.int .i64 b.ah,.slice a2 b.ptz.length c2,.slice a3 b.aL.length c3,.slice (some ⟨blk,off,none⟩) b.aX.length c4] 26))).2;simp only at y0;clear x0;go_wp2
     all_goals try(go_ret;refine dq.mk (λh=>by cases h) ((Below.refl _ _).alloc (zAB _) _))
     go_round
     case rel=>exact⟨k+1,by omega,by go_num⟩
     case measure=>simp[intOf];omega
    .go_wp2
     all_goals(go_ret;exact dq.mk (λ_=>hN.o) ((Below.refl _ _).alloc (zAB _) _))
def jv (w:nq) (v:fu) (e:Ending) (w':nq):Prop:=e=.returned v/\w'=w
def jv.of (v':fu) (h:v'=v):jv w v (.returned v') w:=⟨by rw[h],rfl⟩
def dq.eq {w':nq} {P:Bool->Prop} {r:Bool} (h:P r) (hb:Below w.heap.size w w') (e:v=.bool r):dq w P (.returned v) w':=by subst e;exact .mk h hb
def Tr (r:Bool) (A:Prop):Prop:=r=true↔A
def Tr.t (h:Tr true A):A:=h.1 rfl
def Tr.f (h:Tr false A):¬A:=λa=>Bool.noConfusion (h.2 a)
def Tr.yes (h:A):Tr true A:=⟨λ_=>h,λ_=>rfl⟩
def Tr.no (h:¬A):Tr false A:=⟨λh=>Bool.noConfusion h,λa=>absurd a h⟩
def dr (w:nq) (P:Bool->Prop) (e:Ending) (w':nq):Prop:=∃r,e=.returned (.bool r)/\P r/\w'=w
def TT (w:nq) (o:Obj) (P:Bool->Prop) (e:Ending) (w':nq):Prop:=∃r,e=.returned (.bool r)/\P r/\w'=w.alloc o
def zaO (w:nq) (P:Int->Prop) (e:Ending) (w':nq):Prop:=∃r n,e=.returned (.int .i64 r)/\P r/\w'=w.drewN n
def dr.mk {w:nq} {P:Bool->Prop} {r:Bool} (h:P r):dr w P (.returned (.bool r)) w:=⟨r,rfl,h,rfl⟩
def dd (n a b:Int) (w:nq):Calls ZP 115 #[.int .i64 n,.int .i64 a,.int .i64 b] w (jv w (.bool (decide (a<=n)&&decide (n<=b)))):=by
 by_cases h1:a<=n<;>by_cases h2:n<=b
 all_goals
  go_enter ZF115,Tryz.ntmps115
  go_wp2
  go_ret;exact⟨by simp[h1,h2],rfl⟩
def rC (n a b:Int) (w:nq):Calls ZP 12 #[.int .i64 n,.int .i64 a,.int .i64 b] w (jv w (.bool (decide (a<=n)&&decide (n<=b)))):=by
 by_cases h1:a<=n<;>by_cases h2:n<=b
 all_goals
  go_enter ZF12,Tryz.ntmps12
  go_wp2
  go_ret;exact⟨by simp[h1,h2],rfl⟩
def FY (c:Int) (w:nq):Calls ZP 143 #[.int .u8 c] w (jv w (.bool (decide (97<=c)&&decide (c<=122)))):=by
 by_cases h1:97<=c<;>by_cases h2:c<=122
 all_goals
  go_enter ZF143,Tryz.ntmps143
  go_wp2
  go_ret;exact⟨by simp[h1,h2],rfl⟩
def Ka (c:Int) (w:nq):Calls ZP 144 #[.int .u8 c] w (jv w (.bool (decide (48<=c)&&decide (c<=57)))):=by
 by_cases h1:48<=c<;>by_cases h2:c<=57
 all_goals
  go_enter ZF144,Tryz.ntmps144
  go_wp2
  go_ret;exact⟨by simp[h1,h2],rfl⟩
def ve (lo hi a b:Int) (w:nq):Calls ZP 102 #[.agg #[.int .i64 lo,.int .i64 hi],.int .i64 a,.int .i64 b] w (TT w (.cells #[.int .i64 lo,.int .i64 hi] 34) λr=>Tr r (a<=lo/\lo<=hi/\hi<=b)):=by
 by_cases h1:a<=lo<;>by_cases h2:lo<=hi<;>by_cases h3:hi<=b
 all_goals
  go_enter ZF102,Tryz.ntmps102
  go_wp2
  go_ret;exact⟨_,rfl,by unfold Tr;simp[h1,h2,h3],rfl⟩
def vg (lo hi a b m:Int) (hb:0<=a/\b<=1000) (w:nq):Calls ZP 99 #[.agg #[.int .i64 lo,.int .i64 hi],.int .i64 a,.int .i64 b,.int .i64 m] w (TT w (.cells #[.int .i64 lo,.int .i64 hi] 34) λr=>Tr r (a<=lo/\lo<=hi/\hi<=b/\hi-lo<m)):=by
 by_cases h1:a<=lo<;>by_cases h2:lo<=hi<;>by_cases h3:hi<=b
 all_goals
  go_enter ZF99,Tryz.ntmps99
  go_wp2
  go_ret;refine⟨_,rfl,?_,rfl⟩;unfold Tr
  first
   |(have e:wrap64 (hi-lo)=hi-lo:=by unfold wrap64;omega
     simp[h1,h2,h3,e])
   |(simp[h1,h2,h3];done)
   |(simp[h1,h2,h3];omega)
def br (w:nq) (P:Int->Prop) (e:Ending) (w':nq):Prop:=(∃r,e=.returned (.int .i64 r)/\P r)/\Below w.heap.size w w'
def br.mk {w w':nq} {P:Int->Prop} {r:Int} (h:P r) (hb:Below w.heap.size w w'):br w P (.returned (.int .i64 r)) w':=⟨⟨r,rfl,h⟩,hb⟩
def jw (l:List Int) (x:Int) (k:Nat):Prop:=∀j y,j<k->l[j]?=some y->y≠x
def jw.zero (l:List Int) (x:Int):jw l x 0:=λj y h=>by omega
def jw.succ {l:List Int} {x:Int} {k:Nat} (h:jw l x k) (hy:l[k]?=some y) (bC:y≠x):jw l x (k+1):=λj z hj hz=>by
 by_cases e:j=k
 .subst e;rw[hy]at hz;cases hz;exact bC
 .exact h j z (by omega) hz
def jw.all {l:List Int} {x:Int} (h:jw l x l.length):x∉l:=λhm=>by
 obtain⟨j,hj,rfl⟩:=zCQ hm;exact h j _ hj (zAJ hj) rfl
def Iq (w:nq) (v:fu) (l:List Int) (x:Int) (h:ao w v l):Calls ZP 77 #[v,.int .i64 x] w (jv w (.bool (decide (x∈l)))):=by
 obtain⟨a,c,h1,h2⟩:=h;have H:Hid (bT w v l.length a c/\_):=⟨h1,h2⟩
 obtain⟨rfl,l1,m1,n1,r1⟩:=h1;unfold maxLen at m1;clear h2 n1 r1;go_enter ZF77,Tryz.ntmps77
 go_wp2
 go_loop [5] (λi=>∃k:Nat,k<=l.length/\Hid (jw l x k)/\i=.int .i64 k) (λi=>l.length-(intOf i).toNat)
 case atStart=>exact⟨0,zAM _,jw.zero l x,rfl⟩
 case round=>
  obtain⟨k,hk,hN,rfl⟩:=hrel;by_cases av:k<l.length
  .obtain⟨⟨blk,off,sp⟩,y,rfl,hy,y0⟩:=H.o.1.elem H.o.2 av;obtain rfl:sp=none:=y0.1;have g0:=y0.2;simp only at g0;have HY:=hid hy;clear y0 hy;by_cases e:y=x
   .go_wp2
    go_ret;exact jv.of (.bool true) (by rw[zDS (e▸zBI HY.o)])
   .go_wp2
    go_round
    case rel=>exact⟨k+1,by omega,hN.o.succ HY.o e,by go_num⟩
    case measure=>simp[intOf];omega
  .have e:k=l.length:=by omega
   subst e;go_wp2
   go_ret;exact jv.of (.bool false) (by rw[zDV hN.o.all])
def iH (l:List Int) (n:Int) (k:Nat):Prop:=∀j y,j<k->l[j]?=some y->0<=y/\y<=n-1/\∀z,0<j->l[j-1]?=some z->z<y
def iH.zero (l:List Int) (n:Int):iH l n 0:=λj y h=>by omega
def iH.succ {l:List Int} {k:Nat} (h:iH l n k) (hy:l[k]?=some y) (h1:0<=y/\y<=n-1) (h2:∀z,0<k->l[k-1]?=some z->z<y):iH l n (k+1):=λj z hj hz=>by
 by_cases e:j=k
 .subst e;rw[hy]at hz;cases hz;exact⟨h1.1,h1.2,h2⟩
 .exact h j z (by omega) hz
abbrev FZ (l:List Int) (n:Int):Prop:=iH l n l.length
def Below.drewN (h:Below B a w) (n:Nat):Below B a (w.drewN n):=⟨h.os,h.tape,h.output,h.size,h.block⟩
def F3 (w:nq) (v:fu) (l:List Int) (n:Int) (hn:0<=n/\n<=1000) (h:ao w v l):Calls ZP 31 #[v,.int .i64 n] w (zaO w λs=>s=0↔FZ l n):=by
 obtain⟨a,c,h1,h2⟩:=h;have H:Hid (bT w v l.length a c/\_):=⟨h1,h2⟩
 obtain⟨rfl,l1,m1,n1,r1⟩:=h1;unfold maxLen at m1;clear h2 n1 r1;go_enter ZF31,Tryz.ntmps31
 go_wp2
 go_loopw [5] (λi w1=>∃k:Nat,k<=l.length/\Hid (iH l n k)/\i=.int .i64 k/\∃n,w1=w.drewN n) (λi _=>l.length-(intOf i).toNat)
 case atStart=>exact⟨0,zAM _,iH.zero l n,rfl,0,rfl⟩
 case round=>
  obtain⟨k,hk,hN,rfl,n0,rfl⟩:=hrel;by_cases av:k<l.length
  .obtain⟨⟨blk,off,sp⟩,y,rfl,hy,y0⟩:=H.o.1.elem H.o.2 av;obtain rfl:sp=none:=y0.1;have g0:=y0.2;simp only at g0;have HY:=hid hy;have hw:wrap64 (n-1)=n-1:=by unfold wrap64;omega
   clear y0 hy;by_cases e1:0<=y/\y<=n-1
   .obtain⟨e1,e2⟩:=e1;by_cases qZ:0<k
    .obtain⟨b',z,Nm,hz,z0⟩:=H.o.1.elem H.o.2 (show k-1<l.length by omega);cases Nm;have g1:=z0.2;simp only at g1;go_wp2_with(go_at_call 12;refine(rC _ _ _ _).mono ?_;rintro e w' ⟨rfl,rfl⟩)
     have nS:wrap64 ((k:Int)-1)=((k-1:Nat):Int):=by unfold wrap64;omega
     have f7:(0:Int)<(k:Int):=by omega
     have mi:((k-1:Nat):Int)<(l.length:Int):=by omega
     have mw:(k:Int)<(l.length:Int):=by omega
     by_cases hzy:y<=z
     .go_quiet (fail)
      go_wp2
      go_ret;refine⟨7,_,rfl,⟨(λh=>by cases h),λh=>?_⟩,by simp only[World.drewN_drewN];rfl⟩;have:=(h k y av HY.o).2.2 z qZ hz;omega
     .go_quiet (fail)
      go_wp2
      go_round
      case rel=>exact⟨k+1,by omega,hN.o.succ HY.o ⟨e1,e2⟩ (λz' _ h=>by rw[hz]at h;cases h;omega),by go_num,_,rfl⟩
      case measure=>simp[intOf];omega
    .have f7:¬(0:Int)<(k:Int):=by omega
     have mw:(k:Int)<(l.length:Int):=by omega
     go_wp2_with(go_at_call 12;refine(rC _ _ _ _).mono ?_;rintro e w' ⟨rfl,rfl⟩)
     go_quiet (fail)
     go_wp2
     go_round
     case rel=>exact⟨k+1,by omega,hN.o.succ HY.o ⟨e1,e2⟩ (λz' h _=>by omega),by go_num,_,rfl⟩
     case measure=>simp[intOf];omega
   .have e2:(decide (0<=y)&&decide (y<=n-1))=false:=by
     cases hd:(decide (0<=y)&&decide (y<=n-1))with
     |false=>rfl
     |true=>exact absurd (by simpa using hd) e1
    have E1:=hid e1;clear e1;go_wp2_with(go_at_call 12;refine(rC _ _ _ _).mono ?_;rintro e w' ⟨rfl,rfl⟩)
    go_ret;refine⟨6,_,rfl,⟨(λh=>by cases h),λh=>?_⟩,rfl⟩;have:=h k y av HY.o;exact absurd ⟨this.1,this.2.1⟩ E1.o
  .have e:k=l.length:=by omega
   subst e;go_wp2
   go_ret;exact⟨0,_,rfl,⟨λ_=>hN.o,λ_=>rfl⟩,rfl⟩
def vh (c:Int):Prop:=97<=c/\c<=122
def Da (c:Int):Prop:=48<=c/\c<=57
def oU (s:ByteArray) (k:Nat):Prop:=∀j (hj:j<s.size),j<k->vh (s[j].toNat)\/0<j/\Da (s[j].toNat)
def kd (s:ByteArray):Prop:=1<=s.size/\s.size<=10/\oU s s.size
def oU.succ {k:Nat} (h:oU s k) (hk:k<s.size) (h1:vh (s[k].toNat)\/0<k/\Da (s[k].toNat)):oU s (k+1):=λj hj pW=>by
 by_cases e:j=k
 .subst e;exact h1
 .exact h j hj (by omega)
def Db (w:nq) (c:Int):Calls ZP 143 #[.int .u8 c] w (dr w λr=>Tr r (vh c)):=(FY c w).mono λ_ _ h=>⟨_,h.1,(by unfold Tr;simp[vh]),h.2⟩
def Q6 (w:nq) (c:Int):Calls ZP 144 #[.int .u8 c] w (dr w λr=>Tr r (Da c)):=(Ka c w).mono λ_ _ h=>⟨_,h.1,(by unfold Tr;simp[Da]),h.2⟩
def Q7 (w:nq) (n a b:Int):Calls ZP 12 #[.int .i64 n,.int .i64 a,.int .i64 b] w (dr w λr=>Tr r (a<=n/\n<=b)):=(rC n a b w).mono λ_ _ h=>⟨_,h.1,(by unfold Tr;simp),h.2⟩
def jx (w:nq) (n a b:Int):Calls ZP 115 #[.int .i64 n,.int .i64 a,.int .i64 b] w (dr w λr=>Tr r (a<=n/\n<=b)):=(dd n a b w).mono λ_ _ h=>⟨_,h.1,(by unfold Tr;simp),h.2⟩
def F4 (w:nq) (s:ByteArray) (hs:s.size<=maxLen):Calls ZP 131 #[.string s] w (dr w λr=>Tr r (kd s)):=by
 unfold maxLen at hs;go_enter ZF131,Tryz.ntmps131
 by_cases h1:(s.size:Int)<1
 .go_wp2
  go_ret;exact dr.mk (.no λh=>by have:=h.1;omega)
 by_cases h2:(s.size:Int)>10
 .go_wp2
  go_ret;exact dr.mk (.no λh=>by have:=h.2.1;omega)
 go_wp2
 go_loop [3] (λi=>∃k:Nat,k<=s.size/\Hid (oU s k)/\i=.int .i64 k) (λi=>s.size-(intOf i).toNat)
 case atStart=>exact⟨0,zAM _,(λj _ h=>by omega),rfl⟩
 case round=>
  obtain⟨k,hk,hN,rfl⟩:=hrel;by_cases av:k<s.size
  .have HL:Hid (k<s.size):=av;by_cases qZ:(k:Int)=0
   .have nS:k=0:=by omega
    go_wp2_with(go_at_call 143;refine(Db _ _).mono ?_;rintro e w' ⟨r,rfl,hr,rfl⟩;cases r)
    .go_ret;refine dr.mk (.no λh=>?_);rcases h.2.2 0 (by omega) (by omega)with h|h
     .exact hr.f h
     .omega
    .go_round
     case rel=>subst nS;exact⟨0+1,by omega,hN.o.succ HL.o (.inl hr.t),by go_num⟩
     case measure=>simp[intOf];omega
   .go_wp2_with(first|(go_at_call 143;refine(Db _ _).mono ?_;rintro e w' ⟨r,rfl,hr,rfl⟩;cases r)|(go_at_call 144;refine(Q6 _ _).mono ?_;rintro e w' ⟨r,rfl,qT,rfl⟩;cases r))
    .go_ret;refine dr.mk (.no λh=>?_);rcases h.2.2 k (by omega) (by omega)with h|h
     .exact hr.f h
     .exact qT.f h.2
    .go_round
     case rel=>exact⟨k+1,by omega,hN.o.succ HL.o (.inr ⟨by omega,qT.t⟩),by go_num⟩
     case measure=>simp[intOf];omega
    .go_round
     case rel=>exact⟨k+1,by omega,hN.o.succ HL.o (.inl hr.t),by go_num⟩
     case measure=>simp[intOf];omega
  .obtain rfl:k=s.size:=by omega
   go_wp2
   go_ret;refine dr.mk (.yes ⟨by omega,by omega,hN.o⟩)
structure fV (places:Int) (x:Part):Prop where
 name:kd x.name
 cost:0<=x.cost/\x.cost<=99
 dm:0<=x.dm/\x.dm<=3
 time:0<=x.lo/\x.lo<=x.hi/\x.hi<=20
 wide:x.hi-x.lo<4
 zaP:FZ x.fits places
def ly (places:Int) (l:List Part) (k:Nat):Prop:=∀j x,j<k->l[j]?=some x->fV places x/\∀i y,i<j->l[i]?=some y->y.name≠x.name
def ly.zero (p:Int) (l:List Part):ly p l 0:=λj x h=>by omega
def ly.succ {p:Int} {l:List Part} {x:Part} {k:Nat} (h:ly p l k) (hx:l[k]?=some x) (h1:fV p x) (h2:∀i y,i<k->l[i]?=some y->y.name≠x.name):ly p l (k+1):=λj y hj hy=>by
 by_cases e:j=k
 .subst e;rw[hx]at hy;cases hy;exact⟨h1,h2⟩
 .exact h j y (by omega) hy
structure tS (b:ab):Prop where
 many:1<=b.ptz.length/\b.ptz.length<=5
 all:ly b.ah b.ptz b.ptz.length
def ig (l:List Part) (s:ByteArray) (k:Nat):Prop:=∀j y,j<k->l[j]?=some y->y.name≠s
def ig.zero (l:List Part) (s:ByteArray):ig l s 0:=λj y h=>by omega
def ig.succ {l:List Part} {x:Part} {k:Nat} (h:ig l s k) (hx:l[k]?=some x) (bC:x.name≠s):ig l s (k+1):=λj y hj hy=>by
 by_cases e:j=k
 .subst e;rw[hx]at hy;cases hy;exact bC
 .exact h j y (by omega) hy
def boxed {cs:Array fu} {t:Nat} (h:Below (w.heap.size+1) (w.alloc (.cells cs t)) w1) (k:Nat):w1.cell? ⟨w.heap.size,k,none⟩=cs[k]?:=by
 have:=h.block w.heap.size (by omega);have h2:w1.heap[w.heap.size]?=some (.cells cs t):=this.trans (by show(w.heap.push _)[w.heap.size]?=_;simp);simp only[World.cell?,h2];rfl
def eR {a:Addr} (h:a.block<w.heap.size) (o:Obj):(w.alloc o).cell? a=w.cell? a:=World.cell?_of_block (Kp.alloc w o _ h)
def No {a:Addr} (h:a.block<w.heap.size) (o o2:Obj) (n:Nat):(((w.alloc o).drewN n).alloc o2).cell? a=w.cell? a:=(eR (by simp;omega) o2).trans (eR h o)
def Kp.two (w:nq) (o o2:Obj) (n:Nat):Kp w (((w.alloc o).drewN n).alloc o2):=λk hk=>(Kp.alloc ((w.alloc o).drewN n) o2 k (by simp;omega)).trans (Kp.alloc w o k hk)
def Below.one (h:Below B a w) (hs:B<=w.heap.size) (o:Obj) (n:Nat):Below B a ((w.alloc o).drewN n):=Below.drewN (h.alloc hs o) n
def Below.two (h:Below B a w) (hs:B<=w.heap.size) (o o2:Obj) (n m:Nat):Below B a ((((w.alloc o).drewN n).alloc o2).drewN m):=Below.drewN (Below.alloc (Below.one h hs o n) (by simp;omega) o2) m
def bad {r:Int} (h0:r≠0) (h:¬A):r=0↔A:=⟨λh=>absurd h h0,λa=>absurd a h⟩
def Ir {a:ByteArray} (h:(a.toList==b.toList)=true):a=b:=by
 have h2:=eq_of_beq h;rw[ByteArray.toList_eq,ByteArray.toList_eq]at h2;cases a;cases b;simpa using h2
def Q8 {a:ByteArray} (h:(a.toList==b.toList)=false):a≠b:=λe=>by subst e;simp at h
def Kp.boxed (h:Below (w.heap.size+1) (w.alloc o) w1):Kp w w1:=λk hk=>(h.block k (by omega)).trans (Below.heap_alloc w o k hk)
def Below.boxed (h:Below (w.heap.size+1) (w.alloc o) w1):Below w.heap.size w w1:=((Below.refl _ _).alloc (zAB _) o).trans (h.mono (zDH _))
def vi (w:nq) (v:fu) (b:ab) (hb:ar w v b) (hs:d9 b) (hp:1<=b.ah/\b.ah<=4):
 Calls ZP 105 #[v] w (br w λs=>s=0↔tS b):=by
 obtain⟨v2,v3,v4,rfl,⟨a2,c2,h2,f2⟩,h3,h4⟩:=hb;have H2:Hid (bT w v2 b.ptz.length a2 c2/\_):=⟨h2,f2⟩
 obtain⟨rfl,l2,m2,n2,r2⟩:=h2;unfold maxLen at m2;clear r2 f2 n2 h3 h4;go_enter ZF105,Tryz.ntmps105
 go_wp2_with(go_at_call 12;refine(Q7 _ _ _ _).mono ?_;rintro e w' ⟨r,rfl,hr,rfl⟩;cases r)
 .go_ret;exact br.mk (r:=2) ⟨(λh=>by cases h),λh=>absurd (by have:=h.many;omega) hr.f⟩ ((Below.refl _ _).alloc (zAB _) _)
 have hm:=hr.t;go_loopw [3] (λi w1=>∃k:Nat,k<=b.ptz.length/\Hid (ly b.ah b.ptz k)/\i=.int .i64 k/\Hid (Below (w.heap.size+1) (w.alloc (.cells #[.int .i64 b.ak,.int .i64 b.ah,.slice a2 b.ptz.length c2,v3,v4] 26)) w1)) (λi _=>b.ptz.length-(intOf i).toNat)
 case atStart=>exact⟨0,zAM _,.zero _ _,rfl,Below.refl _ _⟩
 case round=>
  obtain⟨k,hk,hN,rfl,hB⟩:=hrel;have g1:=boxed hB.o 1;have g2:=boxed hB.o 2;simp only[zCA,zBN,zBF]at g1 g2;by_cases av:k<b.ptz.length
  .obtain⟨⟨blk,off,sp⟩,x,rfl,hx,x0,x1,x2,x3,x4,vf,x5,x6⟩:=H2.o.1.elem H2.o.2 av;obtain rfl:sp=none:=x0.1;have x7:=x6.later (Kp.boxed hB.o);obtain⟨af,cf,hf,_⟩:=x6;obtain⟨rfl,_,_,_,_⟩:=hf;have HX:Hid (b.ptz[k]?=some x/\ao wr (.slice af x.fits.length cf) x.fits):=⟨hx,x7⟩
   have cr:x.name.size<=maxLen:=by have:=hs k x av hx;unfold maxLen;omega
   have y0:=(x0.later (Kp.boxed hB.o)).2;have y1:=(x1.later (Kp.boxed hB.o)).2;have y2:=(x2.later (Kp.boxed hB.o)).2;have y3:=(x3.later (Kp.boxed hB.o)).2;have y4:=(x4.later (Kp.boxed hB.o)).2;have y5:=(x5.later (Kp.boxed hB.o)).2;simp only[<-zBD]at y0 y1 y2 y3 y4 y5;have nI:w.heap.size+1<=wr.heap.size:=by have:=hB.o.size;simp at this;omega
   have qm:blk<w.heap.size:=x0.lt;have g1':∀o o2 n,(((wr.alloc o).drewN n).alloc o2).cell? ⟨w.heap.size,1,none⟩=some (.int .i64 b.ah):=λo o2 n=>(No (by show w.heap.size<_;omega) o o2 n).trans g1;have Zi:∀o,(wr.alloc o).cell? ⟨w.heap.size,2,none⟩=some (.slice (some ⟨blk,off,none⟩) b.ptz.length c2):=λo=>(eR (by show w.heap.size<_;omega) o).trans g2;clear x0 x1 x2 x3 x4 x5 x7 hx;go_wp2_with(go_at_call 131;refine(F4 _ _ cr).mono ?_;rintro e w' ⟨r,rfl,hr,rfl⟩;cases r)
   .go_ret;exact br.mk (r:=4) ⟨(λh=>by cases h),λh=>absurd (h.all k x av HX.o.1).1.name hr.f⟩ ((Below.boxed hB.o).alloc (by have:=hB.o.size;simp at this;omega) _)
   have HR:Hid (kd x.name):=hr.t;have xf:=hid av;clear hr;go_loopw [5] (λi w2=>∃m:Nat,m<=k/\Hid (ig b.ptz x.name m)/\i=.int .i64 m/\∃n,w2=(wr.alloc (.cells #[.string x.name,.int .i64 x.cost,.int .i64 x.dm,.int .i64 x.lo,.int .i64 x.hi,.slice af x.fits.length cf] 37)).drewN n) (λi _=>k-(intOf i).toNat)
   case atStart=>exact⟨0,zAM _,.zero _ _,rfl,0,rfl⟩
   case round=>
    obtain⟨m,hm2,hM,rfl,n0,rfl⟩:=hrel;by_cases iS:m<k
    .obtain⟨b',y,Nm,hy,z0,z5⟩:=H2.o.1.elem H2.o.2 (show m<b.ptz.length by have:=xf.o;omega);cases Nm;have q0:=((z0.later (Kp.boxed hB.o)).later (Kp.alloc wr (.cells #[.string x.name,.int .i64 x.cost,.int .i64 x.dm,.int .i64 x.lo,.int .i64 x.hi,.slice af x.fits.length cf] 37))).2;simp only at q0;have HY:=hid hy;have zaQ:(m:Int)<(k:Int):=by omega
     have Pa:(m:Int)<(b.ptz.length:Int):=by omega
     clear hy z0 z5;go_wp2
     go_quiet (fail)
     go_wp2
     .rename_i OQ;have e:y.name=x.name:=Ir OQ;go_ret;exact br.mk (r:=5) (bad (by decide) λh=>(h.all k x xf.o HX.o.1).2 m y iS HY.o e) (Below.drewN (Below.one (Below.boxed hB.o) (by omega) _ _) _)
     .rename_i OQ;have e:Hid (y.name≠x.name):=Q8 OQ;clear OQ;go_round
      case rel=>exact⟨m+1,by omega,hM.o.succ HY.o e.o,by go_num,_,rfl⟩
      case measure=>simp[intOf];omega
    .have x6':ao ((((wr.alloc (.cells #[.string x.name,.int .i64 x.cost,.int .i64 x.dm,.int .i64 x.lo,.int .i64 x.hi,.slice af x.fits.length cf] 37)).drewN n0).alloc (.cells #[.int .i64 x.lo,.int .i64 x.hi] 34))) (.slice af x.fits.length cf) x.fits:=
      HX.o.2.later (Kp.two wr _ _ _)
     have Lk:0<=b.ah/\b.ah<=1000:=by omega
     go_wp2_with(first
      |(go_at_call 12;refine(Q7 _ _ _ _).mono ?_;rintro e w' ⟨r,rfl,hr,rfl⟩;cases r)
      |(go_at_call 102;refine(ve _ _ _ _ _).mono ?_;rintro e w' ⟨r,rfl,hr,rfl⟩;cases r)
      |(go_at_call 31;refine(F3 _ _ _ _ Lk x6').mono ?_;rintro e w' ⟨r,n1,rfl,qT,rfl⟩;by_cases ov:r=0))
     .go_ret;exact br.mk (r:=1) (bad (by decide) λh=>hr.f (h.all k x xf.o HX.o.1).1.cost) (Below.one (Below.boxed hB.o) (by omega) _ _)
     .go_ret;exact br.mk (r:=1) (bad (by decide) λh=>hr.f (h.all k x xf.o HX.o.1).1.dm) (Below.one (Below.boxed hB.o) (by omega) _ _)
     .go_ret;exact br.mk (r:=1) (bad (by decide) λh=>hr.f (h.all k x xf.o HX.o.1).1.time) (Below.two (Below.boxed hB.o) (by omega) _ _ _ 0)
     .rename_i hw4;have ht:=hr.t;have e:¬x.hi-x.lo<4:=by unfold wrap64 at hw4;omega
      go_ret;exact br.mk (r:=1) (bad (by decide) λh=>e (h.all k x xf.o HX.o.1).1.wide) (Below.two (Below.boxed hB.o) (by omega) _ _ _ 0)
     .rename_i zfK zfL hw4;have ht:=hr.t;have e:x.hi-x.lo<4:=by unfold wrap64 at hw4;omega
      have HK:Hid (fV b.ah x):=⟨HR.o,zfK.t,zfL.t,ht,e,qT.1 ov⟩
      clear e ht hw4 hr qT
      have HM:Hid (ig b.ptz x.name k):=(by have e:m=k:=(by omega);subst e;exact hM.o)
      go_round
      case rel=>exact⟨k+1,by omega,hN.o.succ HX.o.1 HK.o HM.o,by go_num,Below.two hB.o (by omega) _ _ _ _⟩
      case measure=>simp[intOf];omega
     .go_ret;exact br.mk (bad ov λh=>ov (qT.2 (h.all k x xf.o HX.o.1).1.zaP)) (Below.two (Below.boxed hB.o) (by omega) _ _ _ _)
  .go_wp2
   go_ret;have e:k=b.ptz.length:=by omega
   subst e;exact br.mk (r:=0) ⟨λ_=>⟨by omega,hN.o⟩,λ_=>rfl⟩ (Below.boxed hB.o)
def scan (f:Nat->Int):Nat->Int
 |0=>0
 |k+1=>if scan f k=0 then f k else scan f k
def nK {f:Nat->Int} {k:Nat} (h:scan f k=0) (h2:f k=0):scan f (k+1)=0:=by unfold scan;rw[zAF h];exact h2
def rD {f:Nat->Int} {k:Nat} (h:scan f k≠0):∀n,scan f (k+n)=scan f k
 |0=>rfl
 |n+1=>by
  rw[<-zBD,scan,zAG (by rw[rD h n];exact h),rD h n]
def cH {f:Nat->Int} {k n:Nat} {s:Int} (h:scan f k=0) (hs:f k=s) (h2:s≠0) (hk:k<n):scan f n=s:=by
 have e:scan f (k+1)=s:=by unfold scan;rw[zAF h];exact hs
 obtain⟨m,rfl⟩:∃m,n=k+1+m:=⟨n-(k+1),by omega⟩
 rw[rD (by rw[e];exact h2),e]
def fC {f:Nat->Int}:∀{n:Nat},scan f n=0↔∀j,j<n->f j=0
 |0=>⟨λ_ j h=>by omega,λ_=>rfl⟩
 |n+1=>by
  constructor
  .intro h j hj;by_cases h0:scan f n=0
   .have e:=h;unfold scan at e;rw[zAF h0]at e;by_cases ej:j=n
    .subst ej;exact e
    .exact fC.1 h0 j (by omega)
   .have e:=h;unfold scan at e;rw[zAG h0]at e;exact absurd e h0
  .intro h;exact nK (fC.2 λj hj=>h j (by omega)) (h n (by omega))
def iw (n:Int) (l:List Int) (k:Nat):Int:=match l[k]? with
 |none=>0
 |some y=>if 0<=y/\y<=n-1 then(if 0<k then(match l[k-1]? with|some z=>if y<=z then 7 else 0|none=>0)else 0)else 6
def lz (l:List Int) (n:Int):Int:=scan (iw n l) l.length
def zaS {l:List Int} {k:Nat} (hy:l[k]?=some y) (h:¬(0<=y/\y<=n-1)):iw n l k=6:=by unfold iw;rw[hy];simp only;rw[zAG h]
def zaT {z:Int} {l:List Int} {k:Nat} (hy:l[k]?=some y) (h:0<=y/\y<=n-1) (hk:0<k) (hz:l[k-1]?=some z) (h2:y<=z):iw n l k=7:=by unfold iw;rw[hy];simp only;rw[zAF h,zAF hk,hz];simp only;rw[zAF h2]
def Np {l:List Int} {k:Nat} (hy:l[k]?=some y) (h:0<=y/\y<=n-1) (h2:∀z,0<k->l[k-1]?=some z->z<y):iw n l k=0:=by
 unfold iw;rw[hy];simp only;rw[zAF h];by_cases hk:0<k
 .rw[zAF hk];cases hz:l[k-1]? with
  |none=>rfl
  |some z=>
   simp only;rw[zAG (by have:=h2 z hk hz;omega)]
 .rw[zAG hk]
def sD {l:List Int}:lz l n=0↔FZ l n:=by
 unfold lz;rw[fC];constructor
 .intro h j y hj hy;have h1:=h j hj;unfold iw at h1;rw[hy]at h1;simp only at h1;split at h1
  .rename_i hr;refine⟨hr.1,hr.2,λz hj0 hz=>?_⟩;rw[zAF hj0,hz]at h1;simp only at h1;split at h1
   .cases h1
   .omega
  .cases h1
 .intro h j hj;have hy:l[j]?=some l[j]:=zAJ hj;have h1:=h j _ hj hy;exact Np hy ⟨h1.1,h1.2.1⟩ h1.2.2
open Classical in
noncomputable def de (p:Int) (l:List Part) (k:Nat):Int:=match l[k]? with
 |none=>0
 |some x=>if kd x.name then(if∃i y,i<k/\l[i]?=some y/\y.name=x.name then 5 else
   if(0<=x.cost/\x.cost<=99)/\(0<=x.dm/\x.dm<=3)/\(0<=x.lo/\x.lo<=x.hi/\x.hi<=20)/\x.hi-x.lo<4 then lz x.fits p else 1)else 4
noncomputable def bU (p:Int) (l:List Part):Int:=if 1<=l.length/\l.length<=5 then scan (de p l) l.length else 2
section
variable {p:Int} {l:List Part} {k:Nat} {x:Part}
def WA (hx:l[k]?=some x) (h:¬kd x.name):de p l k=4:=by unfold de;rw[hx];simp only;rw[zAG h]
def WC (hx:l[k]?=some x) (h:kd x.name) {i:Nat} {y:Part} (hi:i<k) (hy:l[i]?=some y) (hn:y.name=x.name):de p l k=5:=by
 unfold de;rw[hx];simp only;rw[zAF h,zAF ⟨i,y,hi,hy,hn⟩]
def F5 (hx:l[k]?=some x) (h:kd x.name) (hn:ig l x.name k) (h2:¬((0<=x.cost/\x.cost<=99)/\(0<=x.dm/\x.dm<=3)/\(0<=x.lo/\x.lo<=x.hi/\x.hi<=20)/\x.hi-x.lo<4)):de p l k=1:=by
 unfold de;rw[hx];simp only;rw[zAF h,zAG (λ⟨i,y,hi,hy,e⟩=>hn i y hi hy e),zAG h2]
def Nq (hx:l[k]?=some x) (h:kd x.name) (hn:ig l x.name k) (h2:(0<=x.cost/\x.cost<=99)/\(0<=x.dm/\x.dm<=3)/\(0<=x.lo/\x.lo<=x.hi/\x.hi<=20)/\x.hi-x.lo<4):de p l k=lz x.fits p:=by
 unfold de;rw[hx];simp only;rw[zAF h,zAG (λ⟨i,y,hi,hy,e⟩=>hn i y hi hy e),zAF h2]
def F6 (hm:1<=l.length/\l.length<=5):bU p l=scan (de p l) l.length:=by unfold bU;rw[zAF hm]
end
end Go.Proofs.Cz
