/- A part. Conditions: none. -/
import Derived.Test.YtboiakcocelkmaaGreatDoorT24
import Derived.Laws.IdiomStrings
set_option linter.all false
set_option maxHeartbeats 8000000
set_option maxRecDepth 100000
namespace Go.Proofs.Cz
open Go.RowKit
theorem Cj (w:World) (s:ByteArray):∃cap w',(convert 9 197 (.string s)).run ZP w=.ok (.slice (some ⟨w.heap.size,0,none⟩) s.size cap) w'/\Below w.heap.size w w'/\∀j (hj:j<s.size),w'.cell? ⟨w.heap.size,j,none⟩=some (.int .u8 s[j].toNat):=by
 have u9:ZP.underlying 9=some .string:=by rw[Tz.under];exact Tryz.underlying9
 have u77:ZP.underlying 197=some (.slice 5):=by rw[Tz.under];exact Tryz.underlying197
 have u5:ZP.underlying 5=some (.int .u8):=by rw[Tz.under];exact Tryz.underlying5
 refine⟨_,_,run_bytes_of_string w 9 197 5 s u9 u77 u5,?_,?_⟩
 .exact Below.alloc (Below.drewN (Below.refl _ _) 1) (Nat.le_refl _) _
 .intro j hj;exact(World.cell?_alloc_mark _ _ _ _ _).trans (bytesRow_at s _ j hj)
end Go.Proofs.Cz
namespace Go.Proofs.Cz
open Go.RowKit
end Go.Proofs.Cz
namespace Go.RowKit
theorem Below.step {B:Nat} {a w w1:World} {o:Obj} (h:Below B a w) (hs:B<=w.heap.size) (k:Below (w.alloc o).heap.size (w.alloc o) w1):Below B a w1:=
 (Below.alloc h hs o).trans (k.mono (by simp;omega))
end Go.RowKit
namespace Go.Proofs.Cz
open Go.RowKit
variable {a:Option Addr} {cap k n:Nat} {w:World}
theorem eP {w1:World} {cs:Array Value} {t:Nat} (h:Below (w.alloc (.cells cs t)).heap.size (w.alloc (.cells cs t)) w1) (k:Nat):w1.cell? ⟨w.heap.size,k,none⟩=cs[k]?:=boxed h.nX k
theorem bH.take {v:Value} (h:bH w v n a cap) (hk:k<=n):bH w (.slice a k cap) k a cap:=
 ⟨rfl,Nat.le_trans hk h.le,h.I2,h.nil,h.row⟩
theorem eB.take {l:List Part} (h:eB w (.slice a n cap) l) (hk:k<=l.length):eB w (.slice a k cap) (l.take k):=by
 obtain⟨a',ju,h1,h2⟩:=h;obtain⟨rfl,-,rfl⟩:a=a'/\_/\cap=ju:=by simpa using h1.eq
 have hl:(l.take k).length=k:=by simp;omega
 refine⟨a,cap,by rw[hl];exact h1.take hk,fun b e j x hj=>h2 b e j x ?_⟩;have mG:j<k:=by have:=(List.getElem?_eq_some_iff.1 hj).1;omega
 rw[List.getElem?_take]at hj;simpa [mG]using hj
theorem eA.take {l:List (Int×Int)} (h:eA w (.slice a n cap) l) (hk:k<=l.length):eA w (.slice a k cap) (l.take k):=by
 obtain⟨a',ju,h1,h2⟩:=h;obtain⟨rfl,-,rfl⟩:a=a'/\_/\cap=ju:=by simpa using h1.eq
 have hl:(l.take k).length=k:=by simp;omega
 refine⟨a,cap,by rw[hl];exact h1.take hk,fun b e j x hj=>h2 b e j x ?_⟩;have mG:j<k:=by have:=(List.getElem?_eq_some_iff.1 hj).1;omega
 rw[List.getElem?_take]at hj;simpa [mG]using hj
end Go.Proofs.Cz
namespace Go.Proofs.Cz
open Go.RowKit
theorem wP (w:World) (s:ByteArray) (hs:s.size<=maxLen):Calls ZP 172 #[.string s] w (cZ w fun r=>Tr r (ji s)):=by
 unfold maxLen at hs;obtain⟨cap,w1,uX,hb,hc⟩:=Cj w s;have HB:=hid hb;have HC:=hid hc;clear hb hc;go_enter ZF172,Tryz.ntmps172
 go_wp2
 go_loop [8,3,4] (fun i u v=>∃k:Nat,k<=s.size/\Hid (mP s k)/\i=.int .i64 k) (fun i _ _=>s.size-(intOf i).toNat)
 case atStart=>exact⟨0,Nat.zero_le _,(fun j hj h=>absurd h (Nat.not_lt_zero j):mP s 0),rfl⟩
 case round=>
  obtain⟨k,hk,hN,rfl⟩:=hrel;by_cases az:k<s.size
  .have y0:=HC.o k az;have nL:(k:Int)<(s.size:Int):=by omega
   by_cases hl:su (s[k].toNat)
   .have HL:=hid hl;obtain⟨a1,a2⟩:=hl;go_wp2
    go_round
    case rel=>exact⟨k+1,by omega,hN.o.succ az (.inl HL.o),by go_num⟩
    case measure=>simp[intOf];omega
   .have HL:=hid hl;by_cases hd:0<k/\zo (s[k].toNat)
    .have HD:=hid hd;obtain⟨rk,a1,a2⟩:=hd;have nO:(0:Int)<(k:Int):=by omega
     have a3:¬(97:Int)<=s[k].toNat:=by omega
     clear hl;go_wp2
     go_round
     case rel=>exact⟨k+1,by omega,hN.o.succ az (.inr HD.o),by go_num⟩
     case measure=>simp[intOf];omega
    .have QK:Hid (¬ji s):=fun h=>by
      rcases h.2.2 k az az with h1|h1
      .exact hl h1
      .exact hd h1
     by_cases b1:(97:Int)<=s[k].toNat
     .have b2:¬(s[k].toNat:Int)<=122:=fun h=>hl ⟨b1,h⟩;by_cases rk:0<k
      .have nO:(0:Int)<(k:Int):=by omega
       have b4:(48:Int)<=s[k].toNat:=by omega
       have b5:¬(s[k].toNat:Int)<=57:=by omega
       clear hl hd uX;go_wp2
       go_ret;exact cZ.mk (r:=false) ⟨(fun h=>by cases h),fun h=>absurd h QK.o⟩ HB.o
      .have nO:¬(0:Int)<(k:Int):=by omega
       clear hl hd uX;go_wp2
       go_ret;exact cZ.mk (r:=false) ⟨(fun h=>by cases h),fun h=>absurd h QK.o⟩ HB.o
     .by_cases rk:0<k
      .have nO:(0:Int)<(k:Int):=by omega
       by_cases b4:(48:Int)<=s[k].toNat
       .have b5:¬(s[k].toNat:Int)<=57:=fun h=>hd ⟨rk,b4,h⟩;clear hl hd uX;go_wp2
        go_ret;exact cZ.mk (r:=false) ⟨(fun h=>by cases h),fun h=>absurd h QK.o⟩ HB.o
       .clear hl hd uX;go_wp2
        go_ret;exact cZ.mk (r:=false) ⟨(fun h=>by cases h),fun h=>absurd h QK.o⟩ HB.o
      .have nO:¬(0:Int)<(k:Int):=by omega
       clear hl hd uX;go_wp2
       go_ret;exact cZ.mk (r:=false) ⟨(fun h=>by cases h),fun h=>absurd h QK.o⟩ HB.o
  .have ek:k=s.size:=by omega
   subst ek;clear uX;go_wp2_with(go_at_call 66;refine(iw _ _ _ _).mono ?_;rintro e w' ⟨r,rfl,hr,rfl⟩)
   go_ret;exact cZ.mk (r:=r) ⟨fun h=>by have:=hr.1 h;exact⟨by omega,by omega,hN.o⟩,fun h=>hr.2 ⟨by have:=h.1;omega,by have:=h.2.1;omega⟩⟩ HB.o
theorem tU (w:World) (g:Nat) (n1 nm:ByteArray) (a b c d:Int) (vf:Value) (af:Option Addr) (lf cf:Nat) (sA:vf=.slice af lf cf) (hg:w.cell? ⟨g,0,none⟩=some (.string nm)):
 Calls ZP 174 #[.agg #[.string n1,.int .i64 a,.int .i64 b,.int .i64 c,.int .i64 d,vf],.pointer (some ⟨g,0,none⟩)] w (cZ w fun r=>Tr r (n1=nm)):=by
 subst sA;have ED:=(Kp.alloc w (.cells #[.string n1,.int .i64 a,.int .i64 b,.int .i64 c,.int .i64 d,.slice af lf cf] 48))
 have FB:(w.alloc (.cells #[.string n1,.int .i64 a,.int .i64 b,.int .i64 c,.int .i64 d,.slice af lf cf] 48)).cell? ⟨g,0,none⟩=some (.string nm):=
  (ai.cell ⟨_,(Below.refl _ _).alloc (Nat.le_refl _) _⟩ hg:_)
 clear ED;by_cases e:n1=nm
 .subst e;have hd:(n1.toList==n1.toList)=true:=by simp
  go_enter ZF174,Tryz.ntmps174
  go_wp2
  go_ret;exact cZ.mk (r:=true) (by unfold Tr;simp) ((Below.refl _ _).alloc (Nat.le_refl _) _)
 .have hd:(n1.toList==nm.toList)=false:=by
   cases hh:(n1.toList==nm.toList)with
   |false=>rfl
   |true=>exact absurd (DY hh) e
  have HE:Hid (n1≠nm):=e;clear e;go_enter ZF174,Tryz.ntmps174
  go_wp2
  go_ret;exact cZ.mk (r:=false) ⟨(fun h=>by cases h),fun h=>absurd h HE.o⟩ ((Below.refl _ _).alloc (Nat.le_refl _) _)
theorem wQ (w:World) (v:Value) (l:List Part) (g:Nat) (nm:ByteArray) (h:eB w v l) (hg:w.cell? ⟨g,0,none⟩=some (.string nm)):
 Calls ZP 175 #[v,.func (.func 174) #[] #[.pointer (some ⟨g,0,none⟩)]] w (aW w fun r=>r=-1/\fW l nm l.length\/0<=r/\∃i y,i<l.length/\l[i]?=some y/\y.name=nm):=by
 obtain⟨a,c,h1,h2⟩:=h;have H:Hid (bH w v l.length a c/\_):=⟨h1,h2⟩
 have HG:=hid hg;obtain⟨rfl,l1,m1,n1,r1⟩:=h1;unfold maxLen at m1;clear h2 n1 r1 hg;go_enter ZF175,Tryz.ntmps175
 go_wp2
 go_loopw [8,5] (fun i j w1=>∃k:Nat,k<=l.length/\Hid (fW l nm k)/\i=.int .i64 k/\Hid (Below w.heap.size w w1)) (fun i _ _=>l.length-(intOf i).toNat)
 case atStart=>exact⟨0,Nat.zero_le _,fW.zero _ _,rfl,Below.refl _ _⟩
 case round=>
  obtain⟨k,hk,hN,rfl,hB⟩:=hrel;by_cases az:k<l.length
  .obtain⟨⟨blk,off,sp⟩,x,rfl,hx,x0,x1,x2,x3,x4,vf,x5,x6⟩:=H.o.1.elem H.o.2 az;obtain rfl:sp=none:=x0.1;obtain⟨af,cf,hf,_⟩:=x6;obtain⟨rfl,lf,mf,_,_⟩:=hf;have y0:=(x0.later (Kp.of hB.o)).2;have y1:=(x1.later (Kp.of hB.o)).2;have y2:=(x2.later (Kp.of hB.o)).2;have y3:=(x3.later (Kp.of hB.o)).2;have y4:=(x4.later (Kp.of hB.o)).2;have y5:=(x5.later (Kp.of hB.o)).2;simp only[<-Nat.add_assoc]at y0 y1 y2 y3 y4 y5;have nL:(k:Int)<(l.length:Int):=by omega
   have hgr:=ai.cell ⟨wr,hB.o⟩ HG.o;have HX:=hid hx;clear x0 x1 x2 x3 x4 x5 hx
   go_wp2_with
    (go_at_call 174
     refine(tU _ _ _ _ _ _ _ _ _ _ _ _ rfl hgr).mono ?_;rintro e w1 ⟨⟨r,rfl,hr⟩,bj⟩;cases r)
   .go_round
    case rel=>exact⟨k+1,by omega,hN.o.succ HX.o hr.f,by go_num,hB.o.trans (bj.mono hB.o.size)⟩
    case measure=>simp[intOf];omega
   .go_ret;exact aW.mk (r:=(k:Int)) (.inr ⟨by omega,k,x,az,HX.o,hr.t⟩) (hB.o.trans (bj.mono hB.o.size))
  .have ek:k=l.length:=by omega
   subst ek;go_wp2
   go_ret;exact aW.mk (r:=-1) (.inl ⟨rfl,hN.o⟩) hB.o
theorem wR (w:World) (v:Value) (l:List Part) (g:Nat) (nm:ByteArray) (h:eB w v l) (hg:w.cell? ⟨g,0,none⟩=some (.string nm)):
 Calls ZP 173 #[v,.func (.func 174) #[] #[.pointer (some ⟨g,0,none⟩)]] w (cZ w fun r=>Tr r (∃i y,i<l.length/\l[i]?=some y/\y.name=nm)):=by
 go_enter ZF173,Tryz.ntmps173
 go_wp2_with
  (go_at_call 175
   refine(wQ _ _ _ _ _ h hg).mono ?_;rintro e w1 ⟨⟨r,rfl,hr⟩,bj⟩;have HR:=hid hr;clear hr)
 go_ret;refine cZ.mk ?_ bj;unfold Tr;rcases HR.o with⟨rfl,h⟩|⟨h0,h⟩
 .simp only[decide_eq_true_eq];exact⟨fun h1=>by omega,fun⟨i,y,hi,hy,e⟩=>absurd e (h i y hi hy)⟩
 .exact⟨fun _=>h,fun _=>by simp;omega⟩
theorem da.eq {w:World} {P:Bool->Prop} {v:Value} {r:Bool} (h:P r) (e:v=.bool r):da w P (.returned v) w:=by subst e;exact .mk h
theorem FG (w:World) (v:Value) (l:List Int) (x:Int) (h:an w v l):Calls ZP 118 #[v,.int .i64 x] w (fun e w'=>∃r,e=.returned (.int .i64 r)/\(0<=r↔x∈l)/\w'=w):=by
 obtain⟨a,c,h1,h2⟩:=h;have H:Hid (bH w v l.length a c/\_):=⟨h1,h2⟩
 obtain⟨rfl,l1,m1,n1,r1⟩:=h1;unfold maxLen at m1;clear h2 n1 r1;go_enter ZF118,Tryz.ntmps118
 go_wp2
 go_loop [8,5] (fun i j=>∃k:Nat,k<=l.length/\Hid (iv l x k)/\i=.int .i64 k) (fun i _=>l.length-(intOf i).toNat)
 case atStart=>exact⟨0,Nat.zero_le _,iv.zero l x,rfl⟩
 case round=>
  obtain⟨k,hk,hN,rfl⟩:=hrel;by_cases az:k<l.length
  .obtain⟨⟨blk,off,sp⟩,y,rfl,hy,y0⟩:=H.o.1.elem H.o.2 az;obtain rfl:sp=none:=y0.1;have g0:=y0.2;simp only at g0;have HY:=hid hy;have nL:(k:Int)<(l.length:Int):=by omega
   clear y0 hy;by_cases e:x=y
   .subst e;go_wp2
    go_ret;exact⟨k,rfl,⟨fun _=>List.mem_of_getElem? HY.o,fun _=>by omega⟩,rfl⟩
   .have e':Hid (y≠x):=fun h=>e h.symm;go_wp2
    go_round
    case rel=>exact⟨k+1,by omega,hN.o.succ HY.o e'.out,by go_num⟩
    case measure=>simp[intOf];omega
  .have HN:Hid (x∉l):=(by have e:k=l.length:=by omega
                          subst e;exact hN.o.all)
   go_wp2
   go_ret;exact⟨-1,rfl,⟨fun h=>by omega,fun h=>absurd h HN.o⟩,rfl⟩
theorem j6 (w:World) (v:Value) (l:List Int) (x:Int) (h:an w v l):Calls ZP 91 #[v,.int .i64 x] w (da w fun r=>Tr r (x∈l)):=by
 go_enter ZF91,Tryz.ntmps91
 go_wp2_with
  (go_at_call 118
   refine(FG _ _ _ x h).mono ?_;rintro e w1 ⟨r,rfl,hr,rfl⟩;by_cases h0:0<=r)
 .have hx:Hid (x∈l):=hr.1 h0;go_ret;exact da.eq (r:=true) (Tr.yes hx.o) (by simp[hx.o])
 .have hx:Hid (¬x∈l):=fun h=>by have:=hr.2 h;omega
  go_ret;exact da.eq (r:=false) (Tr.no hx.o) (by simp[hx.o])
theorem tV (w:World) (v:Value) (l:List (Int×Int)) (p q:Int) (h:eA w v l):
 Calls ZP 149 #[v,.agg #[.int .i64 p,.int .i64 q]] w (aW w fun r=>0<=r↔(p,q)∈l):=by
 obtain⟨a,c,h1,h2⟩:=h;have H:Hid (bH w v l.length a c/\_):=⟨h1,h2⟩
 obtain⟨rfl,l1,m1,n1,r1⟩:=h1;unfold maxLen at m1;clear h2 n1 r1;go_enter ZF149,Tryz.ntmps149
 go_wp2
 go_loopw [8,5] (fun i j w1=>∃k:Nat,k<=l.length/\Hid (gP l (p,q) k)/\i=.int .i64 k/\∃n,w1=(w.alloc (.cells #[.int .i64 p,.int .i64 q] 111)).drewN n) (fun i _ _=>l.length-(intOf i).toNat)
 case atStart=>exact⟨0,Nat.zero_le _,gP.zero l _,rfl,0,rfl⟩
 case round=>
  obtain⟨k,hk,hN,rfl,n0,rfl⟩:=hrel;by_cases az:k<l.length
  .obtain⟨⟨blk,off,sp⟩,⟨ya,yb⟩,rfl,hy,y0,y1⟩:=H.o.1.elem H.o.2 az;obtain rfl:sp=none:=y0.1;have g0:=(y0.later (Kp.alloc w (.cells #[.int .i64 p,.int .i64 q] 111))).2;have g1:=(y1.later (Kp.alloc w (.cells #[.int .i64 p,.int .i64 q] 111))).2;simp only[<-Nat.add_assoc]at g0 g1;have HY:=hid hy;have nL:(k:Int)<(l.length:Int):=by omega
   clear y0 y1 hy;by_cases e1:p=ya
   .subst e1;by_cases e2:q=yb
    .subst e2;go_wp2
     go_quiet (fail)
     go_wp2
     go_ret;exact aW.mk (r:=k) ⟨fun _=>List.mem_of_getElem? HY.o,fun _=>by omega⟩ (Below.drewN (Below.drewN (Below.alloc (Below.refl _ _) (Nat.le_refl _) _) _) _)
    .have bJ:Hid ((p,yb)≠(p,q)):=(fun h=>e2 (by cases h;rfl):(p,yb)≠(p,q))
     go_wp2
     go_quiet (fail)
     go_wp2
     go_round
     case rel=>exact⟨k+1,by omega,hN.o.succ HY.o bJ.o,by go_num,_,rfl⟩
     case measure=>simp[intOf];omega
   .have bJ:Hid ((ya,yb)≠(p,q)):=(fun h=>e1 (by cases h;rfl):(ya,yb)≠(p,q))
    go_wp2
    go_quiet (fail)
    go_wp2
    go_round
    case rel=>exact⟨k+1,by omega,hN.o.succ HY.o bJ.o,by go_num,_,rfl⟩
    case measure=>simp[intOf];omega
  .have HN:Hid ((p,q)∉l):=(by
    have e:k=l.length:=by omega
    subst e;intro hm;obtain⟨j,hj,mG⟩:=List.getElem_of_mem hm;exact hN.o j _ hj (List.getElem?_eq_getElem hj) mG)
   go_wp2
   go_ret;exact aW.mk (r:=-1) ⟨fun h=>by omega,fun h=>absurd h HN.o⟩ (Below.drewN (Below.alloc (Below.refl _ _) (Nat.le_refl _) _) _)
theorem dq (w:World) (v:Value) (l:List (Int×Int)) (p q:Int) (h:eA w v l):
 Calls ZP 135 #[v,.agg #[.int .i64 p,.int .i64 q]] w (cZ w fun r=>Tr r ((p,q)∈l)):=by
 go_enter ZF135,Tryz.ntmps135
 have h':=h.later (Kp.alloc w (.cells #[.int .i64 p,.int .i64 q] 111))
 go_wp2_with
  (go_at_call 149
   refine(tV _ _ _ p q h').mono ?_;rintro e w1 ⟨⟨r,rfl,hr⟩,bj⟩;by_cases h0:0<=r)
 .have hx:Hid ((p,q)∈l):=hr.1 h0;go_ret;exact cZ.eq (r:=true) (Tr.yes hx.o) (Below.step (Below.refl _ _) (Nat.le_refl _) bj) (by simp[hx.o])
 .have hx:Hid (¬(p,q)∈l):=fun h=>by have:=hr.2 h;omega
  go_ret;exact cZ.eq (r:=false) (Tr.no hx.o) (Below.step (Below.refl _ _) (Nat.le_refl _) bj) (by simp[hx.o])
open Classical in
noncomputable def bQ (b:ao):Int:=if(1<=b.ak/\b.ak<=99)/\1<=b.places/\b.places<=4 then 0 else 1
theorem dr {b:ao}:bQ b=0↔(1<=b.ak/\b.ak<=99)/\1<=b.places/\b.places<=4:=by
 unfold bQ;split
 .rename_i h;exact⟨fun _=>h,fun _=>rfl⟩
 .rename_i h;exact⟨fun h1=>absurd h1 (by decide),fun h2=>absurd h2 h⟩
theorem jj {b:ao} (h:¬((1<=b.ak/\b.ak<=99)/\1<=b.places/\b.places<=4)):bQ b=1:=by unfold bQ;rw[if_neg h]
theorem Ck (w:World) (v:Value) (b:ao) (hb:au w v b):Calls ZP 168 #[v] w (aW w fun r=>r=bQ b):=by
 obtain⟨v2,v3,v4,rfl,⟨a2,c2,⟨rfl,_,_,_,_⟩,_⟩,⟨a3,c3,⟨rfl,_,_,_,_⟩,_⟩,⟨a4,c4,⟨rfl,_,_,_,_⟩,_⟩⟩:=hb;go_enter ZF168,Tryz.ntmps168
 go_wp2_with(first
  |(go_at_call 66;(with_reducible refine(iw _ b.ak _ _).mono ?_);rintro e w' ⟨r,rfl,qP,rfl⟩;cases r)
  |(go_at_call 66;(with_reducible refine(iw _ b.places _ _).mono ?_);rintro e w' ⟨r,rfl,qu,rfl⟩;cases r))
 .go_ret;exact aW.mk (r:=1) (jj fun h=>qP.f h.1).symm ((Below.refl _ _).alloc (Nat.le_refl _) _)
 .go_ret;exact aW.mk (r:=1) (jj fun h=>qu.f h.2).symm ((Below.refl _ _).alloc (Nat.le_refl _) _)
 .go_ret;exact aW.mk (r:=0) (dr.2 ⟨qP.t,qu.t⟩).symm ((Below.refl _ _).alloc (Nat.le_refl _) _)
theorem Cm (w:World) (v:Value) (b:ao) (hb:au w v b) (hs:de b) (oz:1<=b.places/\b.places<=4):Calls ZP 169 #[v] w (aW w fun r=>r=bc b.places b.parts):=by
 obtain⟨v2,v3,v4,rfl,Jc,h3,h4⟩:=hb;have Xh:=hid Jc;have HS:Hid (de b):=hs;obtain⟨a2,c2,h2,f2⟩:=Jc;have H2:Hid (bH w v2 b.parts.length a2 c2/\_):=⟨h2,f2⟩
 obtain⟨rfl,l2,m2,n2,r2⟩:=h2;obtain⟨a3,c3,⟨rfl,_,_,_,_⟩,_⟩:=h3;obtain⟨a4,c4,⟨rfl,_,_,_,_⟩,_⟩:=h4;unfold maxLen at m2;clear r2 f2 n2 hs;go_enter ZF169,Tryz.ntmps169
 go_wp2_with(go_at_call 66;refine(iw _ _ _ _).mono ?_;rintro e w' ⟨r,rfl,hr,rfl⟩;cases r)
 .go_ret;exact aW.mk (r:=2) (by unfold bc;rw[if_neg (fun h=>hr.f (by omega))]) ((Below.refl _ _).alloc (Nat.le_refl _) _)
 have hm:=hr.t;have mS:Hid (bc b.places b.parts=scan (bO b.places b.parts) b.parts.length):=sv (by omega);clear hr;go_loopw [17,3,4] (fun i u v w1=>∃k:Nat,k<=b.parts.length/\i=.int .i64 k/\Hid (scan (bO b.places b.parts) k=0)/\Hid (Below (w.heap.size+1) (w.alloc (.cells #[.int .i64 b.ak,.int .i64 b.places,.slice a2 b.parts.length c2,.slice a3 b.apart.length c3,.slice a4 b.ab.length c4] 66)) w1)) (fun i _ _ _=>b.parts.length-(intOf i).toNat)
 case atStart=>exact⟨0,Nat.zero_le _,rfl,rfl,Below.refl _ _⟩
 case round=>
  obtain⟨k,hk,rfl,hN,hB⟩:=hrel;have g1:=boxed hB.o 1;have g2:=boxed hB.o 2;simp only[List.getElem?_toArray,List.getElem?_cons_succ,List.getElem?_cons_zero]at g1 g2;by_cases az:k<b.parts.length
  .obtain⟨⟨blk,off,sp⟩,x,rfl,hx,x0,x1,x2,x3,x4,vf,x5,x6⟩:=H2.o.1.elem H2.o.2 az;obtain rfl:sp=none:=x0.1;have x7:=x6.later (Kp.boxed hB.o);obtain⟨af,cf,hf,_⟩:=x6;obtain⟨rfl,lf,mf,_,_⟩:=hf;unfold maxLen at mf;have HX:Hid (b.parts[k]?=some x/\an wr (.slice af x.fits.length cf) x.fits):=⟨hx,x7⟩
   have bX:x.name.size<=maxLen:=by have:=HS.o k x az hx;unfold maxLen;omega
   have qZ:=hid az;have y0:=(x0.later (Kp.boxed hB.o)).2;have y1:=(x1.later (Kp.boxed hB.o)).2;have y2:=(x2.later (Kp.boxed hB.o)).2;have y3:=(x3.later (Kp.boxed hB.o)).2;have y4:=(x4.later (Kp.boxed hB.o)).2;have y5:=(x5.later (Kp.boxed hB.o)).2;simp only[<-Nat.add_assoc]at y0 y1 y2 y3 y4 y5;have li:w.heap.size+1<=wr.heap.size:=by have:=hB.o.size;simp at this;omega
   have m8:blk<w.heap.size:=x0.lt;have nL:(k:Int)<(b.parts.length:Int):=by omega
   clear x0 x1 x2 x3 x4 x5 x7 hx
   go_wp2_with(first
    |(go_at_call 172
      refine(wP _ _ bX).mono ?_;rintro e w1 ⟨⟨r,rfl,QL⟩,bj⟩;have B1:Hid (Below (w.heap.size+1) _ w1):=hB.o.step li bj;have p0:=eP bj 0;have p1:=eP bj 1;have p2:=eP bj 2;have p3:=eP bj 3;have p4:=eP bj 4;have p5:=eP bj 5;have q1:=boxed B1.o 1;have q2:=boxed B1.o 2;simp only[List.getElem?_toArray,List.getElem?_cons_succ,List.getElem?_cons_zero]at p0 p1 p2 p3 p4 p5 q1 q2;cases r)
    |(go_at_call 173
      refine(wR _ _ (b.parts.take k) _ x.name ((Xh.o.later (Kp.boxed B1.o)).take hk) p0).mono ?_;rintro e w2 ⟨⟨r,rfl,Ol⟩,fk⟩;have B2:Hid (Below (w.heap.size+1) _ w2):=B1.o.trans (fk.mono (by have:=B1.o.size;simpa using this));have s1:=ai.cell ⟨w2,fk⟩ p1;have s2:=ai.cell ⟨w2,fk⟩ p2;have s3:=ai.cell ⟨w2,fk⟩ p3;have s4:=ai.cell ⟨w2,fk⟩ p4;have s5:=ai.cell ⟨w2,fk⟩ p5;have t1:=ai.cell ⟨w2,fk⟩ q1;simp only at s1 s2 s3 s4 s5 t1;have s5a:∀o,(w2.alloc o).cell? ⟨wr.heap.size,5,none⟩=_:=fun o=>ai.cell ⟨w2.alloc o,(Below.refl _ _).alloc (Nat.le_refl _) o⟩ s5;have t1a:∀o,(w2.alloc o).cell? ⟨w.heap.size,1,none⟩=_:=fun o=>ai.cell ⟨w2.alloc o,(Below.refl _ _).alloc (Nat.le_refl _) o⟩ t1;have HF:Hid (∀o,an (w2.alloc o) (.slice af x.fits.length cf) x.fits):=fun o=>(HX.o.2.later (Kp.trans (Kp.alloc wr _) (Kp.of bj) (by simp))).later (Kp.trans (Kp.of fk) (Kp.alloc w2 o) fk.size)
      have wS:Hid (r=true\/fW b.parts x.name k):=(by
       cases r with
       |true=>exact .inl rfl
       |false=>exact .inr fun i y hi hy e=>Ol.f ⟨i,y,by rw[List.length_take];omega,by rw[List.getElem?_take_of_lt hi];exact hy,e⟩)
      have HNY:Hid (r=false\/∃i y,i<k/\b.parts[i]?=some y/\y.name=x.name):=(by
       cases r with
       |false=>exact .inl rfl
       |true=>
        obtain⟨i,y,hi,hy,e⟩:=Ol.t;have hi2:i<k:=by rw[List.length_take]at hi;omega
        exact .inr ⟨i,y,hi2,by rw[List.getElem?_take_of_lt hi2]at hy;exact hy,e⟩)
      clear p0 p1 p2 p3 p4 p5 q1 q2 Ol;cases r)
    |(go_at_call 66;(with_reducible refine(iw _ x.cost _ _).mono ?_);rintro e w' ⟨r,rfl,hrc,rfl⟩;cases r)
    |(go_at_call 66;(with_reducible refine(iw _ x.fN _ _).mono ?_);rintro e w' ⟨r,rfl,P8,rfl⟩;cases r)
    |(go_at_call 94;refine(sr _ _ _ _ _ (by omega) _).mono ?_;rintro e w' ⟨r,rfl,hrx,rfl⟩;cases r))
   .go_ret;exact aW.mk (r:=4) (mS.o.trans (aK hN.o (I7 HX.o.1 QL.f) (by decide) qZ.o)).symm (Below.boxed B1.o)
   .go_ret;exact aW.mk (r:=1) (mS.o.trans (aK hN.o (mQ HX.o.1 QL.t (wS.o.resolve_left (by simp)) fun h=>hrc.f h.1) (by decide) qZ.o)).symm (Below.boxed B2.o)
   .go_ret;exact aW.mk (r:=1) (mS.o.trans (aK hN.o (mQ HX.o.1 QL.t (wS.o.resolve_left (by simp)) fun h=>P8.f h.2.1) (by decide) qZ.o)).symm (Below.boxed B2.o)
   .go_ret;exact aW.mk (r:=1) (mS.o.trans (aK hN.o (mQ HX.o.1 QL.t (wS.o.resolve_left (by simp)) fun h=>hrx.f ⟨h.2.2.1.1,h.2.2.1.2.1,h.2.2.1.2.2,h.2.2.2⟩) (by decide) qZ.o)).symm (Below.boxed (Below.alloc B2.o (by have:=B2.o.size;simpa using this) _))
   .have HPB:Hid (bO b.places b.parts k=scan (fD b.places x.fits) x.fits.length):=(by
     have h:=hrx.t;exact wJ HX.o.1 QL.t (wS.o.resolve_left (by simp)) ⟨hrc.t,P8.t,⟨h.1,h.2.1,h.2.2.1⟩,h.2.2.2⟩)
    have QF:wrap64 (b.places-1)=b.places-1:=by unfold wrap64;omega
    have gi:Hid (Below w.heap.size w _):=Below.boxed (Below.alloc B2.o (by have:=B2.o.size;simpa using this) (.cells #[.int .i64 x.lo,.int .i64 x.hi] 37));clear QL hrc P8 hrx bj fk;go_loop [51,5,6] (fun i u v=>∃m:Nat,m<=x.fits.length/\i=.int .i64 m/\Hid (scan (fD b.places x.fits) m=0)) (fun i _ _=>x.fits.length-(intOf i).toNat)
    case atStart=>exact⟨0,Nat.zero_le _,rfl,rfl⟩
    case round=>
     obtain⟨m,hm2,rfl,hM⟩:=hrel;by_cases il:m<x.fits.length
     .obtain⟨a',ju,AE,U8⟩:=HF.o (.cells #[.int .i64 x.lo,.int .i64 x.hi] 37);have he:=AE.eq;simp only[Value.slice.injEq]at he;obtain⟨rfl,-,rfl⟩:=he;obtain⟨⟨fb,fo,fs⟩,y,rfl,hy,y0⟩:=AE.elem U8 il;obtain rfl:fs=none:=y0.1;have z0:=y0.2;simp only at z0;have HY:=hid hy;have HMK:=hid il;have U7:(m:Int)<(x.fits.length:Int):=by omega
      by_cases pU:0<=y/\y<=b.places-1
      .have e3:(decide (0<=y)&&decide (y<=b.places-1))=true:=by simpa using pU
       have D2:=hid pU;clear pU;by_cases Ey:0<m
       .obtain⟨b',z,wK,Ov,z1⟩:=AE.elem U8 (show m-1<x.fits.length by omega);cases wK;have z1:=z1.2;simp only at z1;have HZ:Hid (x.fits[m-1]?=some z):=Ov;have Ox:Hid (0<m):=Ey;have oA:wrap64 ((m:Int)-1)=((m-1:Nat):Int):=by unfold wrap64;omega
        have nO:(0:Int)<(m:Int):=by omega
        have oY:((m-1:Nat):Int)<(x.fits.length:Int):=by omega
        clear Ov AE U8 y0 hy;by_cases Xe:y<=z
        .have HZY:Hid (y<=z):=Xe;go_wp2_with(go_at_call 66;refine(bZ _ _ _ _).mono ?_;rw[e3];rintro e w' ⟨rfl,rfl⟩)
         go_ret;exact aW.mk (r:=7) (mS.o.trans (aK hN.o (HPB.o.trans (aK hM.o (Ou HY.o D2.o Ox.o HZ.o HZY.o) (by decide) HMK.o)) (by decide) qZ.o)).symm gi.o
        .have HZY:Hid (z<y):=Int.lt_of_not_ge Xe;go_wp2_with(go_at_call 66;refine(bZ _ _ _ _).mono ?_;rw[e3];rintro e w' ⟨rfl,rfl⟩)
         go_round
         case rel=>exact⟨m+1,by omega,by go_num,fC hM.o (zq HY.o D2.o fun z' _ m8=>by rw[HZ.o]at m8;cases m8;exact HZY.o)⟩
         case measure=>simp[intOf];omega
       .have nO:¬(0:Int)<(m:Int):=by omega
        have Ox:Hid (¬0<m):=Ey;clear AE U8 y0 hy;go_wp2_with(go_at_call 66;refine(bZ _ _ _ _).mono ?_;rw[e3];rintro e w' ⟨rfl,rfl⟩)
        go_round
        case rel=>exact⟨m+1,by omega,by go_num,fC hM.o (zq HY.o D2.o fun z' h _=>absurd h Ox.o)⟩
        case measure=>simp[intOf];omega
      .have e3:(decide (0<=y)&&decide (y<=b.places-1))=false:=by
        cases hd:(decide (0<=y)&&decide (y<=b.places-1))with
        |false=>rfl
        |true=>exact absurd (by simpa using hd) pU
       have D2:=hid pU;clear pU AE U8 y0 hy;go_wp2_with(go_at_call 66;refine(bZ _ _ _ _).mono ?_;rw[e3];rintro e w' ⟨rfl,rfl⟩)
       go_ret;exact aW.mk (r:=6) (mS.o.trans (aK hN.o (HPB.o.trans (aK hM.o (Ot HY.o D2.o) (by decide) HMK.o)) (by decide) qZ.o)).symm gi.o
     .have em:m=x.fits.length:=by omega
      subst em;have HK:Hid (bO b.places b.parts k=0):=HPB.o.trans hM.o;go_wp2
      go_round
      case rel=>exact⟨k+1,by omega,by go_num,fC hN.o HK.o,(Below.alloc B2.o (by have:=B2.o.size;simpa using this) _:Below _ _ _)⟩
      case measure=>simp[intOf];omega
   .obtain⟨i,y,hi,hy,Kk⟩:=HNY.o.resolve_left (by simp);go_ret;exact aW.mk (r:=5) (mS.o.trans (aK hN.o (I8 HX.o.1 QL.t hi hy Kk) (by decide) qZ.o)).symm (Below.boxed B2.o)
  .have ek:k=b.parts.length:=by omega
   subst ek;go_wp2
   go_ret;exact aW.mk (r:=0) (mS.o.trans hN.o).symm (Below.boxed hB.o)
theorem Cn (w:World) (v:Value) (b:ao) (hb:au w v b) (ME:1<=b.parts.length/\b.parts.length<=5):Calls ZP 170 #[v] w (aW w fun r=>r=bC b.parts.length b.apart):=by
 obtain⟨v2,v3,v4,rfl,h2,Jc,h4⟩:=hb;have Xh:=hid Jc;obtain⟨a3,c3,h3,f3⟩:=Jc;have H3:Hid (bH w v3 b.apart.length a3 c3/\_):=⟨h3,f3⟩
 obtain⟨rfl,l3,m3,n3,r3⟩:=h3;obtain⟨a2,c2,⟨rfl,_,m2,_,_⟩,_⟩:=h2;obtain⟨a4,c4,⟨rfl,_,_,_,_⟩,_⟩:=h4;unfold maxLen at m3;clear r3 f3 n3 m2;have kd:wrap64 ((b.parts.length:Int)-1)=b.parts.length-1:=by unfold wrap64;omega
 by_cases hmm:(5:Int)<(b.apart.length:Int)
 .go_enter ZF170,Tryz.ntmps170
  go_wp2
  go_ret;exact aW.mk (r:=2) (by unfold bC;rw[if_neg (by omega)]) ((Below.refl _ _).alloc (Nat.le_refl _) _)
 have mS:Hid (bC b.parts.length b.apart=scan (cO b.parts.length b.apart) b.apart.length):=sB (by omega);go_enter ZF170,Tryz.ntmps170
 go_wp2
 go_loopw [14,3,4] (fun i u v w1=>∃k:Nat,k<=b.apart.length/\i=.int .i64 k/\Hid (scan (cO b.parts.length b.apart) k=0)/\Hid (Below (w.heap.size+1) (w.alloc (.cells #[.int .i64 b.ak,.int .i64 b.places,.slice a2 b.parts.length c2,.slice a3 b.apart.length c3,.slice a4 b.ab.length c4] 66)) w1)) (fun i _ _ _=>b.apart.length-(intOf i).toNat)
 case atStart=>exact⟨0,Nat.zero_le _,rfl,rfl,Below.refl _ _⟩
 case round=>
  obtain⟨k,hk,rfl,hN,hB⟩:=hrel;have g2:=boxed hB.o 2;have g3:=boxed hB.o 3;simp only[List.getElem?_toArray,List.getElem?_cons_succ,List.getElem?_cons_zero]at g2 g3;by_cases az:k<b.apart.length
  .obtain⟨⟨blk,off,sp⟩,⟨xa,xb⟩,rfl,hx,x0,x1⟩:=H3.o.1.elem H3.o.2 az;obtain rfl:sp=none:=x0.1;have HX:=hid hx;have qZ:=hid az;have y0:=(x0.later (Kp.boxed hB.o)).2;have y1:=(x1.later (Kp.boxed hB.o)).2;simp only[<-Nat.add_assoc]at y0 y1;have li:w.heap.size+1<=wr.heap.size:=by have:=hB.o.size;simp at this;omega
   have m8:blk<w.heap.size:=x0.lt;have nL:(k:Int)<(b.apart.length:Int):=by omega
   have nO:(k:Int)<=(c3:Int):=by omega
   clear x0 x1 hx;have HA:Hid (Below w.heap.size w (wr.alloc (.cells #[.int .i64 xa,.int .i64 xb] 111))):=Below.one (Below.boxed hB.o) (by omega) _ 0;have Tk:∀o,(wr.alloc o).cell? ⟨w.heap.size,2,none⟩=some (.slice a2 b.parts.length c2):=fun o=>(dI (by show w.heap.size<_;omega) o).trans g2;by_cases h1:0<=xa/\xa<=(b.parts.length:Int)-1
   .have e1:(decide (0<=xa)&&decide (xa<=(b.parts.length:Int)-1))=true:=by simpa using h1
    have U9:=hid h1;clear h1;by_cases h2:0<=xb/\xb<=(b.parts.length:Int)-1
    .have e2:(decide (0<=xb)&&decide (xb<=(b.parts.length:Int)-1))=true:=by simpa using h2
     have Va:=hid h2;clear h2;by_cases h3:xb<xa
     .have HN3:Hid (¬xa<=xb):=Int.not_le.2 h3;go_wp2_with(go_at_call 66;refine(bZ _ _ _ _).mono ?_;(first|rw[e1]|rw[e2]);rintro e w' ⟨rfl,rfl⟩)
      go_ret;exact aW.mk (r:=7) (mS.o.trans (aK hN.o (I9 HX.o ⟨U9.o,Va.o⟩ (fun(h:xa<=xb)=>by have:=HN3.o;omega)) (by decide) qZ.o)).symm HA.o
     .have KH:Hid (sx b.parts.length (xa,xb)):=⟨U9.o,Va.o,Int.not_lt.1 h3⟩
      have G3:∀X:ai (wr.alloc (.cells #[.int .i64 xa,.int .i64 xb] 111)),X.1.cell? ⟨w.heap.size,3,none⟩=some (.slice (some ⟨blk,off,none⟩) b.apart.length c3):=fun X=>
       X.cell ((dI (by show w.heap.size<_;omega) _).trans g3)
      have T0:∀X:ai (wr.alloc (.cells #[.int .i64 xa,.int .i64 xb] 111)),X.1.cell? ⟨wr.heap.size,0,none⟩=some (.int .i64 xa):=fun X=>eP X.2 0;have T1:∀X:ai (wr.alloc (.cells #[.int .i64 xa,.int .i64 xb] 111)),X.1.cell? ⟨wr.heap.size,1,none⟩=some (.int .i64 xb):=fun X=>eP X.2 1;have hz:=hid li;by_cases dF:(xa,xb)∈b.apart.take k
      .have HMM:Hid (∃i,i<k/\b.apart[i]?=some (xa,xb)):=by
        obtain⟨j,hj,mG⟩:=List.getElem_of_mem dF;rw[List.getElem_take]at mG;have S9:j<b.apart.length:=by simp at hj;omega
        exact⟨j,by simp at hj;omega,by rw[List.getElem?_eq_getElem S9,mG]⟩
       have mV:∀X:ai (wr.alloc (.cells #[.int .i64 xa,.int .i64 xb] 111)),Calls ZP 135 #[.slice (some ⟨blk,off,none⟩) k c3,.agg #[.int .i64 xa,.int .i64 xb]] X.1 (fun e gI=>e=.returned (.bool true)/\∃Y:ai (wr.alloc (.cells #[.int .i64 xa,.int .i64 xb] 111)),gI=Y.1):=fun X=>
        (dq _ _ _ _ _ (((Xh.o.later (Kp.boxed hB.o)).later (Kp.trans (Kp.alloc wr _) X.kp (by simp))).take hk)).mono fun e w' ⟨⟨r,h1,h2⟩,h3⟩=>⟨by cases r with
          |true=>exact h1
          |false=>exact absurd dF h2.f,X.on h3⟩
       clear dF;go_wp2_with(go_at_call 66;refine(bZ _ _ _ _).mono ?_;(first|rw[e1]|rw[e2]);rintro e w' ⟨rfl,rfl⟩)
       refine am (by kernel_rfl) (by kernel_rfl) ?_;repeat(go_big_quiet_step (first|(go_at_call 135;exact mV _)))
       refine wpQuiet_nil ?_;rintro _ ⟨X,rfl⟩;go_wp2
       go_ret;obtain⟨i,hi,hy⟩:=HMM.o;exact aW.mk (r:=5) (mS.o.trans (aK hN.o (Ja HX.o KH.o hi hy) (by decide) qZ.o)).symm (Below.boxed (hB.o.step hz.o X.2))
      .have HNP:Hid (gP b.apart (xa,xb) k):=fun i y hi hy e=>by
        subst e;have Vb:=(List.getElem?_eq_some_iff.1 hy)
        exact dF (List.mem_iff_getElem?.2 ⟨i,by rw[List.getElem?_take_of_lt hi];exact hy⟩)
       have mV:∀X:ai (wr.alloc (.cells #[.int .i64 xa,.int .i64 xb] 111)),Calls ZP 135 #[.slice (some ⟨blk,off,none⟩) k c3,.agg #[.int .i64 xa,.int .i64 xb]] X.1 (fun e gI=>e=.returned (.bool false)/\∃Y:ai (wr.alloc (.cells #[.int .i64 xa,.int .i64 xb] 111)),gI=Y.1):=fun X=>
        (dq _ _ _ _ _ (((Xh.o.later (Kp.boxed hB.o)).later (Kp.trans (Kp.alloc wr _) X.kp (by simp))).take hk)).mono fun e w' ⟨⟨r,h1,h2⟩,h3⟩=>⟨by cases r with
          |false=>exact h1
          |true=>exact absurd h2.t dF,X.on h3⟩
       clear dF;go_wp2_with(go_at_call 66;refine(bZ _ _ _ _).mono ?_;(first|rw[e1]|rw[e2]);rintro e w' ⟨rfl,rfl⟩)
       refine am (by kernel_rfl) (by kernel_rfl) ?_;repeat(go_big_quiet_step (first|(go_at_call 135;exact mV _)))
       refine wpQuiet_nil ?_;rintro _ ⟨X,rfl⟩;go_wp2
       go_round
       case rel=>exact⟨k+1,by omega,by go_num,fC hN.o (Ci HX.o KH.o HNP.o),hB.o.step hz.o X.2⟩
       case measure=>simp[intOf];omega
    .have e2:(decide (0<=xb)&&decide (xb<=(b.parts.length:Int)-1))=false:=by
      cases hd:(decide (0<=xb)&&decide (xb<=(b.parts.length:Int)-1))with
      |false=>rfl
      |true=>exact absurd (by simpa using hd) h2
     have Va:=hid h2;clear h2;by_cases Kt:xa=xb
     .exact absurd U9.o (by rw[Kt];exact Va.o)
     .clear Kt;go_wp2_with(go_at_call 66;refine(bZ _ _ _ _).mono ?_;(first|rw[e1]|rw[e2]);rintro e w' ⟨rfl,rfl⟩)
      go_ret;exact aW.mk (r:=6) (mS.o.trans (aK hN.o (wN HX.o fun h=>Va.o h.2) (by decide) qZ.o)).symm HA.o
   .have e1:(decide (0<=xa)&&decide (xa<=(b.parts.length:Int)-1))=false:=by
     cases hd:(decide (0<=xa)&&decide (xa<=(b.parts.length:Int)-1))with
     |false=>rfl
     |true=>exact absurd (by simpa using hd) h1
    have U9:=hid h1;clear h1;go_wp2_with(go_at_call 66;refine(bZ _ _ _ _).mono ?_;rw[e1];rintro e w' ⟨rfl,rfl⟩)
    go_ret;exact aW.mk (r:=6) (mS.o.trans (aK hN.o (wN HX.o fun h=>U9.o h.1) (by decide) qZ.o)).symm HA.o
  .have ek:k=b.apart.length:=by omega
   subst ek;go_wp2
   go_ret;exact aW.mk (r:=0) (mS.o.trans hN.o).symm (Below.boxed hB.o)
theorem uY {b:ao} (h:fE b) (p q:Int):(min p q,max p q)∈b.apart↔Apart b.apart p q:=by
 constructor
 .intro hm;refine⟨_,hm,?_⟩;by_cases e:p<=q
  .left;simp only;omega
  .right;simp only;omega
 .rintro⟨⟨x,y⟩,hm,hx⟩;obtain⟨j,hj,mG⟩:=List.getElem_of_mem hm;have hle:=(h.all j _ hj (by rw[List.getElem?_eq_getElem hj,mG])).1.le
  have:(min p q,max p q)=(x,y):=by
   rcases hx with⟨rfl,rfl⟩|⟨rfl,rfl⟩<;>simp only at*<;>ext<;>simp only<;>omega
  rw[this];exact hm
theorem mX (w:World) (v:Value) (b:ao) (p q:Int) (hb:au w v b) (h:fE b):
 Calls ZP 106 #[v,.int .i64 p,.int .i64 q] w (cZ w fun r=>Tr r (Apart b.apart p q)):=by
 obtain⟨v2,v3,v4,rfl,h2,Sk,h4⟩:=hb;obtain⟨a2,c2,⟨rfl,_,_,_,_⟩,_⟩:=h2;obtain⟨a4,c4,⟨rfl,_,_,_,_⟩,_⟩:=h4;have hP0:=Sk;obtain⟨a3,c3,⟨rfl,_,_,_,_⟩,_⟩:=hP0;have Sk:=Sk.later (Kp.alloc w (.cells #[.int .i64 b.ak,.int .i64 b.places,.slice a2 b.parts.length c2,.slice a3 b.apart.length c3,.slice a4 b.ab.length c4] 66));by_cases hqp:q<p
 .have hC:=dq _ _ _ q p Sk
  have hI:(q,p)∈b.apart↔Apart b.apart p q:=by
   have:=uY h p q;rwa [show min p q=q by omega,show max p q=p by omega]at this
  have zgk:¬p<q:=by omega
  go_enter ZF106,Tryz.ntmps106
  go_wp2_with(go_at_call 135;refine hC.mono ?_;rintro e w1 ⟨⟨r,rfl,hr⟩,bj⟩;cases r)
  .go_ret;exact cZ.mk (Tr.no fun ha=>hr.f (hI.2 ha)) (Below.step (Below.refl _ _) (Nat.le_refl _) bj)
  .go_ret;exact cZ.mk (Tr.yes (hI.1 hr.t)) (Below.step (Below.refl _ _) (Nat.le_refl _) bj)
 .have hI:(p,q)∈b.apart↔Apart b.apart p q:=by
   have:=uY h p q;rwa [show min p q=p by omega,show max p q=q by omega]at this
  by_cases hpq:p<q
  .have hC:=dq _ _ _ p q Sk;go_enter ZF106,Tryz.ntmps106
   go_wp2_with(go_at_call 135;refine hC.mono ?_;rintro e w1 ⟨⟨r,rfl,hr⟩,bj⟩;cases r)
   .go_ret;exact cZ.mk (Tr.no fun ha=>hr.f (hI.2 ha)) (Below.step (Below.refl _ _) (Nat.le_refl _) bj)
   .go_ret;exact cZ.mk (Tr.yes (hI.1 hr.t)) (Below.step (Below.refl _ _) (Nat.le_refl _) bj)
  .obtain rfl:p=q:=by omega
   have hC:=dq _ _ _ p p Sk;go_enter ZF106,Tryz.ntmps106
   go_wp2_with(go_at_call 135;refine hC.mono ?_;rintro e w1 ⟨⟨r,rfl,hr⟩,bj⟩;cases r)
   .go_ret;exact cZ.mk (Tr.no fun ha=>hr.f (hI.2 ha)) (Below.step (Below.refl _ _) (Nat.le_refl _) bj)
   .go_ret;exact cZ.mk (Tr.yes (hI.1 hr.t)) (Below.step (Below.refl _ _) (Nat.le_refl _) bj)
theorem qC.QM {w w1:World} {v0 v1 v2 v3 v4:Value} {t:Nat} (h:Below (w.heap.size+1) (w.alloc (.cells #[v0,v1,v2,v3,v4] t)) w1):qC w1 w.heap.size v0 v1 v2 v3 v4:=
 ⟨boxed h 0,boxed h 1,boxed h 2,boxed h 3,boxed h 4⟩
theorem Jd (w:World) (g n c:Nat) (a:Option Addr) (k:Int) (hn:1<=n/\n<=5) (hg:w.cell? ⟨g,2,none⟩=some (.slice a n c)):
 Calls ZP 105 #[.int .i64 k,.pointer (some ⟨g,0,none⟩)] w (da w fun r=>Tr r (¬(0<=k/\k<=(n:Int)-1))):=by
 have kd:wrap64 ((n:Int)-1)=n-1:=by unfold wrap64;omega
 go_enter ZF105,Tryz.ntmps105
 go_wp2_with(go_at_call 66;refine(iw _ _ _ _).mono ?_;rintro e w' ⟨r,rfl,hr,rfl⟩;cases r)
 .go_ret;exact da.mk (Tr.yes hr.f)
 .go_ret;exact da.mk (Tr.no fun h=>h hr.t)
theorem zu (w:World) (v:Value) (l:List Int) (g n c:Nat) (a:Option Addr) (h:an w v l) (hn:1<=n/\n<=5) (hg:w.cell? ⟨g,2,none⟩=some (.slice a n c)):
 Calls ZP 134 #[v,.func (.func 105) #[] #[.pointer (some ⟨g,0,none⟩)]] w (fun e w'=>∃r,e=.returned (.int .i64 r)/\(0<=r↔¬lu l n l.length)/\w'=w):=by
 obtain⟨a1,c1,h1,h2⟩:=h;have H:Hid (bH w v l.length a1 c1/\_):=⟨h1,h2⟩
 have HG:=hid hg;obtain⟨rfl,l1,m1,n1,r1⟩:=h1;unfold maxLen at m1;clear h2 n1 r1 hg;go_enter ZF134,Tryz.ntmps134
 go_wp2
 go_loop [8,5] (fun i j=>∃k:Nat,k<=l.length/\Hid (lu l n k)/\i=.int .i64 k) (fun i _=>l.length-(intOf i).toNat)
 case atStart=>exact⟨0,Nat.zero_le _,lu.zero _ _,rfl⟩
 case round=>
  obtain⟨k,oA,hN,rfl⟩:=hrel;by_cases az:k<l.length
  .obtain⟨⟨blk,off,sp⟩,y,rfl,hy,y0⟩:=H.o.1.elem H.o.2 az;obtain rfl:sp=none:=y0.1;have g0:=y0.2;simp only at g0;have HY:=hid hy;have qZ:=hid az;have nL:(k:Int)<(l.length:Int):=by omega
   clear y0 hy
   go_wp2_with
    (go_at_call 105
     refine(Jd _ _ _ _ _ _ hn HG.o).mono ?_;rintro e w' ⟨r,rfl,hr,rfl⟩;cases r)
   .have HI:Hid (0<=y/\y<=(n:Int)-1):=Classical.not_not.1 hr.f;clear hr;go_round
    case rel=>exact⟨k+1,by omega,hN.o.succ HY.o HI.o,by go_num⟩
    case measure=>simp[intOf];omega
   .have HI:Hid (¬(0<=y/\y<=(n:Int)-1)):=hr.t;clear hr;go_ret;exact⟨_,rfl,⟨fun _ h=>HI.o (h k y qZ.o HY.o),fun _=>Int.natCast_nonneg _⟩,rfl⟩
  .have ek:k=l.length:=by omega
   subst ek;go_wp2
   go_ret;exact⟨-1,rfl,⟨fun h=>absurd h (by decide),fun h=>absurd hN.o h⟩,rfl⟩
theorem zv (w:World) (v:Value) (l:List Int) (g n c:Nat) (a:Option Addr) (h:an w v l) (hn:1<=n/\n<=5) (hg:w.cell? ⟨g,2,none⟩=some (.slice a n c)):
 Calls ZP 104 #[v,.func (.func 105) #[] #[.pointer (some ⟨g,0,none⟩)]] w (da w fun r=>Tr r (¬lu l n l.length)):=by
 go_enter ZF104,Tryz.ntmps104
 go_wp2_with
  (go_at_call 134
   refine(zu _ _ _ _ _ _ _ h hn hg).mono ?_;rintro e w1 ⟨r,rfl,hr,rfl⟩;have HR:=hid hr;clear hr)
 go_ret;refine da.mk ?_;unfold Tr;simp only[decide_eq_true_eq];exact HR.o
theorem pq (w:World) (v vl:Value) (b:ao) (l:List Int) (hb:au w v b) (hl:an w vl l) (hp:1<=b.parts.length/\b.parts.length<=5) (MG:fE b):
 Calls ZP 53 #[v,vl] w (aW w fun s=>s=ar b l):=by
 have HB:=hid hb;have HI:=hid hl;have Xi:Hid (fE b):=MG;obtain⟨v2,v3,v4,rfl,⟨a2,c2,h2,f2⟩,⟨a3,c3,⟨rfl,_,_,_,_⟩,_⟩,⟨a4,c4,⟨rfl,_,_,_,_⟩,_⟩⟩:=hb;obtain⟨al,cl,B7,fl⟩:=hl;have H2:Hid (bH w v2 b.parts.length a2 c2/\_):=⟨h2,f2⟩
 have HL:Hid (bH w vl l.length al cl/\_):=⟨B7,fl⟩
 obtain⟨rfl,l2,m2,n2,r2⟩:=h2;obtain⟨rfl,ll,ml,nl,rl⟩:=B7;unfold maxLen at m2 ml;clear r2 f2 n2 rl fl nl MG;by_cases hlen:(l.length:Int)=b.places
 case neg=>
  have sy:=hid hlen;go_enter ZF53,Tryz.ntmps53
  go_wp2
  go_ret;exact aW.mk (r:=2) (j0 sy.o) ((Below.refl _ _).alloc (Nat.le_refl _) _)
 case pos=>
 have bJ:((l.length:Int)!=b.places)=false:=by simp[hlen]
 have sy:=hid hlen
 have HO:=zv (w.alloc (.cells #[.int .i64 b.ak,.int .i64 b.places,.slice a2 b.parts.length c2,.slice a3 b.apart.length c3,.slice a4 b.ab.length c4] 66)) _ l w.heap.size b.parts.length c2 a2
  (HI.o.later (Kp.alloc w _)) hp (boxed (Below.refl _ _) 2)
 clear hlen;go_enter ZF53,Tryz.ntmps53
 go_wp2_with
  (go_at_call 104
   refine HO.mono ?_;rintro e w' ⟨r,rfl,hr,rfl⟩;cases r)
 rotate_left
 .have HR:=hr.t;go_ret;exact aW.mk (r:=6) (ly sy.o HR) ((Below.refl _ _).alloc (Nat.le_refl _) _)
 have Vc:Hid (lu l b.parts.length l.length):=Classical.not_not.1 hr.f;clear HO hr;go_loopw [20,5,6] (fun i u v w1=>∃k:Nat,k<=l.length/\i=.int .i64 k/\Hid (kr b l k)/\Hid (Below (w.heap.size+1) (w.alloc (.cells #[.int .i64 b.ak,.int .i64 b.places,.slice a2 b.parts.length c2,.slice a3 b.apart.length c3,.slice a4 b.ab.length c4] 66)) w1)) (fun i _ _ _=>l.length-(intOf i).toNat)
 case atStart=>exact⟨0,Nat.zero_le _,rfl,kr.zero _ _,Below.refl _ _⟩
 case round=>
  obtain⟨k,hk,rfl,hF,hB⟩:=hrel;have gg:=qC.QM hB.o;by_cases az:k<l.length
  .obtain⟨⟨blk,off,sp⟩,x,rfl,hx,x0⟩:=HL.o.1.elem HL.o.2 az;obtain rfl:sp=none:=x0.1;obtain⟨xn,rfl⟩:=Int.eq_ofNat_of_zero_le (Vc.o k x az hx).1;have hxr:=(Vc.o k xn az hx).2;have Dg:xn<b.parts.length:=by omega
   obtain⟨⟨pb,po,ps⟩,P,rfl,hP,_,_,_,_,_,vf,p5,sA⟩:=H2.o.1.elem H2.o.2 Dg;obtain rfl:ps=none:=p5.1;have hf:=sA;obtain⟨af,cf,⟨rfl,_,_,_,_⟩,_⟩:=sA;have HX:=hid hx;have qZ:=hid az;have HPX:Hid (b.parts[(xn:Int).toNat]?=some P):=by rw[Int.toNat_natCast];exact hP
   have G0:=fun X:ai wr=>X.cell gg.c0;have G1:=fun X:ai wr=>X.cell gg.c1;have G2:=fun X:ai wr=>X.cell gg.c2;have G3:=fun X:ai wr=>X.cell gg.c3;have G4:=fun X:ai wr=>X.cell gg.c4;have y0:=(x0.later (Kp.boxed hB.o)).2;have Y5:=fun X:ai wr=>X.cell (p5.later (Kp.boxed hB.o)).2;simp only[<-Nat.add_assoc]at y0 Y5;have nL:(k:Int)<(l.length:Int):=by omega
   have hx2:(xn:Int)<(b.parts.length:Int):=by omega
   have hz:Hid (w.heap.size+1<=wr.heap.size):=by have:=hB.o.size;simp at this;exact(by omega:w.heap.size+1<=wr.heap.size)
   clear hx hP p5 gg;by_cases mT:(k:Int)∈P.fits
   .have qD:∀X:ai wr,Calls ZP 91 #[.slice af P.fits.length cf,.int .i64 k] X.1 (fun e gI=>e=.returned (.bool true)/\∃Y:ai wr,gI=Y.1):=fun X=>
     (j6 _ _ _ k ((hf.later (Kp.boxed hB.o)).later X.kp)).mono fun e w' ⟨r,h1,h2,h3⟩=>⟨by rw[h1,h2.2 mT],X.same h3⟩
    have Xj:=hid mT;clear mT;by_cases rk:0<k
    .obtain⟨b',z,wK,Ov,z0⟩:=HL.o.1.elem HL.o.2 (show k-1<l.length by omega);cases wK;have Z0:=fun X:ai wr=>X.cell (z0.later (Kp.boxed hB.o)).2;simp only at Z0;have HZ:Hid (l[k-1]?=some z):=Ov;have Oy:Hid (0<k):=rk;have oA:wrap64 ((k:Int)-1)=((k-1:Nat):Int):=by unfold wrap64;omega
     have nO:(0:Int)<(k:Int):=by omega
     have oY:((k-1:Nat):Int)<(l.length:Int):=by omega
     clear z0 Ov x0;by_cases qE:Apart b.apart z xn
     .have HAP:=hid qE
      have mU:∀X:ai wr,Calls ZP 106 #[.agg #[.int .i64 b.ak,.int .i64 b.places,.slice (some ⟨pb,po,none⟩) b.parts.length c2,.slice a3 b.apart.length c3,.slice a4 b.ab.length c4],.int .i64 z,.int .i64 xn] X.1 (fun e gI=>e=.returned (.bool true)/\∃Y:ai wr,gI=Y.1):=fun X=>
       (mX _ _ _ _ _ ((HB.o.later (Kp.boxed hB.o)).later X.kp) Xi.o).mono fun e w' ⟨⟨r,h1,h2⟩,h3⟩=>⟨by cases r with
         |true=>exact h1
         |false=>exact absurd qE h2.f,X.on h3⟩
      clear qE;go_wp2
      refine am (by kernel_rfl) (by kernel_rfl) ?_;repeat(go_big_quiet_step (first|(go_at_call 91;exact qD _)|(go_at_call 106;exact mU _)))
      refine wpQuiet_nil ?_;rintro _ ⟨X,rfl⟩;go_wp2
      go_ret;exact aW.mk (r:=3) (fF sy.o Vc.o fun h=>(h k _ qZ.o HX.o).RG Oy.o z HZ.o HAP.o) (Below.boxed (hB.o.trans (X.2.mono hz.o)))
     .have HAP:=hid qE
      have mU:∀X:ai wr,Calls ZP 106 #[.agg #[.int .i64 b.ak,.int .i64 b.places,.slice (some ⟨pb,po,none⟩) b.parts.length c2,.slice a3 b.apart.length c3,.slice a4 b.ab.length c4],.int .i64 z,.int .i64 xn] X.1 (fun e gI=>e=.returned (.bool false)/\∃Y:ai wr,gI=Y.1):=fun X=>
       (mX _ _ _ _ _ ((HB.o.later (Kp.boxed hB.o)).later X.kp) Xi.o).mono fun e w' ⟨⟨r,h1,h2⟩,h3⟩=>⟨by cases r with
         |false=>exact h1
         |true=>exact absurd h2.t qE,X.on h3⟩
      clear qE;go_wp2
      refine am (by kernel_rfl) (by kernel_rfl) ?_;repeat(go_big_quiet_step (first|(go_at_call 91;exact qD _)|(go_at_call 106;exact mU _)))
      refine wpQuiet_nil ?_;rintro _ ⟨X,rfl⟩;go_wp2
      go_round
      case rel=>exact⟨k+1,by omega,by go_num,hF.o.succ HX.o ⟨⟨P,HPX.o,Xj.o⟩,fun _ y hy=>by rw[HZ.o]at hy;cases hy;exact HAP.o⟩,hB.o.trans (X.2.mono hz.o)⟩
      case measure=>simp[intOf];omega
    .have nO:¬(0:Int)<(k:Int):=by omega
     have Oy:Hid (¬0<k):=rk;clear x0;go_wp2
     refine am (by kernel_rfl) (by kernel_rfl) ?_;repeat(go_big_quiet_step (first|(go_at_call 91;exact qD _)))
     refine wpQuiet_nil ?_;rintro _ ⟨X,rfl⟩;go_wp2
     go_round
     case rel=>exact⟨k+1,by omega,by go_num,hF.o.succ HX.o ⟨⟨P,HPX.o,Xj.o⟩,fun h=>absurd h Oy.o⟩,hB.o.trans (X.2.mono hz.o)⟩
     case measure=>simp[intOf];omega
   .have qD:∀X:ai wr,Calls ZP 91 #[.slice af P.fits.length cf,.int .i64 k] X.1 (fun e gI=>e=.returned (.bool false)/\∃Y:ai wr,gI=Y.1):=fun X=>
     (j6 _ _ _ k ((hf.later (Kp.boxed hB.o)).later X.kp)).mono fun e w' ⟨r,h1,h2,h3⟩=>⟨by cases r with
       |false=>exact h1
       |true=>exact absurd h2.t mT,X.same h3⟩
    have Xj:=hid mT;clear mT x0;go_wp2
    refine am (by kernel_rfl) (by kernel_rfl) ?_;repeat(go_big_quiet_step (first|(go_at_call 91;exact qD _)))
    refine wpQuiet_nil ?_;rintro _ ⟨X,rfl⟩;go_wp2
    go_ret
    exact aW.mk (r:=3) (fF sy.o Vc.o fun h=>by
     obtain⟨P',Sh,hm⟩:=(h k _ qZ.o HX.o).fits;rw[HPX.o]at Sh;cases Sh;exact Xj.o hm) (Below.boxed (hB.o.trans (X.2.mono hz.o)))
  .clear gg;have ek:k=l.length:=by omega
   subst ek;go_wp2
   go_ret;exact aW.mk (r:=0) (lz ⟨sy.o,Vc.o,hF.o⟩) (Below.boxed hB.o)
theorem zx (w:World) (v:Value) (b:ao) (hb:au w v b) (hp:1<=b.parts.length/\b.parts.length<=5) (MG:fE b):Calls ZP 171 #[v] w (aW w fun s=>s=cP b):=by
 have HB:=hid hb;have Xi:Hid (fE b):=MG;obtain⟨v2,v3,v4,rfl,⟨a2,c2,⟨rfl,_,_,_,_⟩,_⟩,⟨a3,c3,⟨rfl,_,_,_,_⟩,_⟩,⟨a4,c4,h4,f4⟩⟩:=hb;have H4:Hid (bH w v4 b.ab.length a4 c4/\_):=⟨h4,f4⟩
 obtain⟨rfl,l4,m4,n4,r4⟩:=h4;unfold maxLen at m4;clear r4 f4 n4 MG;by_cases hmm:(4:Int)<(b.ab.length:Int)
 .go_enter ZF171,Tryz.ntmps171
  go_wp2
  go_ret;exact aW.mk (r:=2) (by unfold cP;rw[if_neg (by omega)]) ((Below.refl _ _).alloc (Nat.le_refl _) _)
 have HTS:Hid (cP b=scan (cD b) b.ab.length):=qb (by omega);go_enter ZF171,Tryz.ntmps171
 go_wp2
 go_loopw [15,4] (fun i u w1=>∃k:Nat,k<=b.ab.length/\i=.int .i64 k/\Hid (scan (cD b) k=0)/\Hid (Below (w.heap.size+1) (w.alloc (.cells #[.int .i64 b.ak,.int .i64 b.places,.slice a2 b.parts.length c2,.slice a3 b.apart.length c3,.slice a4 b.ab.length c4] 66)) w1)) (fun i _ _=>b.ab.length-(intOf i).toNat)
 case atStart=>exact⟨0,Nat.zero_le _,rfl,rfl,Below.refl _ _⟩
 case round=>
  obtain⟨k,hk,rfl,hN,hB⟩:=hrel;obtain⟨s0,s1,s2,s3,s4⟩:=qC.QM hB.o;by_cases az:k<b.ab.length
  .obtain⟨⟨blk,off,sp⟩,t,rfl,hx,⟨vf,x0,hf⟩,x1,x2⟩:=H4.o.1.elem H4.o.2 az;obtain rfl:sp=none:=x0.1;have Dl:=hf;obtain⟨af,cf,⟨rfl,_,_,_,_⟩,_⟩:=hf;have HX:=hid hx;have qZ:=hid az;have li:w.heap.size+1<=wr.heap.size:=by have:=hB.o.size;simp at this;omega
   have hz:=hid li;have s0':∀o,(wr.alloc o).cell? ⟨w.heap.size,0,none⟩=some (.int .i64 b.ak):=fun o=>(dI (by show w.heap.size<_;omega) o).trans s0;have s1':∀o,(wr.alloc o).cell? ⟨w.heap.size,1,none⟩=some (.int .i64 b.places):=fun o=>(dI (by show w.heap.size<_;omega) o).trans s1;have s2':∀o,(wr.alloc o).cell? ⟨w.heap.size,2,none⟩=some (.slice a2 b.parts.length c2):=fun o=>(dI (by show w.heap.size<_;omega) o).trans s2;have s3':∀o,(wr.alloc o).cell? ⟨w.heap.size,3,none⟩=some (.slice a3 b.apart.length c3):=fun o=>(dI (by show w.heap.size<_;omega) o).trans s3;have s4':∀o,(wr.alloc o).cell? ⟨w.heap.size,4,none⟩=some (.slice (some ⟨blk,off,none⟩) b.ab.length c4):=fun o=>(dI (by show w.heap.size<_;omega) o).trans s4;have y0:=(x0.later (Kp.boxed hB.o)).2;have y1:=(x1.later (Kp.boxed hB.o)).2;have y2:=(x2.later (Kp.boxed hB.o)).2;simp only[<-Nat.add_assoc]at y0 y1 y2;have nL:(k:Int)<(b.ab.length:Int):=by omega
   have hC:=pq (wr.alloc (.cells #[.slice af t.parts.length cf,.int .i64 t.lo,.int .i64 t.hi] 50)) _ _ _ _ ((HB.o.later (Kp.boxed hB.o)).later (Kp.alloc wr _)) ((Dl.later (Kp.boxed hB.o)).later (Kp.alloc wr _)) hp Xi.o;obtain⟨mb,Jb⟩:=ex1 (ar b t.parts);have HMB:=hid Jb;rw[Jb]at hC;clear Dl x0 x1 x2 hx Jb;by_cases Ey:mb=0
   .subst Ey;have HMO:Hid (dp b t.parts):=bI.1 HMB.o
    go_wp2_with(first
     |(go_at_call 53
       refine hC.mono ?_;rintro e w1 ⟨⟨r,rfl,rfl⟩,bj⟩;have B1:Hid (Below (w.heap.size+1) _ w1):=hB.o.step li bj;have p1:=eP bj 1;have p2:=eP bj 2;simp only[List.getElem?_toArray,List.getElem?_cons_succ,List.getElem?_cons_zero]at p1 p2)
     |(go_at_call 94;refine(sr _ _ _ _ _ (by omega) _).mono ?_;rintro e w' ⟨r,rfl,hr,rfl⟩;cases r))
    .have HR:Hid (¬(0<=t.lo/\t.lo<=t.hi/\t.hi<=99)):=fun h=>hr.f ⟨h.1,h.2.1,h.2.2,by omega⟩;go_ret;exact aW.mk (r:=1) (HTS.o.trans (aK hN.o (D0 HX.o HMO.o HR.o) (by decide) qZ.o)).symm (Below.boxed (Below.alloc B1.o (by have:=B1.o.size;simpa using this) _))
    .have KH:Hid (qY b t):=⟨HMO.o,hr.t.1,hr.t.2.1,hr.t.2.2.1⟩
     clear hr;go_round
     case rel=>exact⟨k+1,by omega,by go_num,fC hN.o (wO HX.o KH.o),(Below.alloc B1.o (by have:=B1.o.size;simpa using this) _:Below _ _ _)⟩
     case measure=>simp[intOf];omega
   .have Ox:Hid (mb≠0):=Ey
    go_wp2_with
     (go_at_call 53
      refine hC.mono ?_;rintro e w1 ⟨⟨r,rfl,rfl⟩,bj⟩;have B1:Hid (Below (w.heap.size+1) _ w1):=hB.o.step li bj)
    go_ret;exact aW.mk (HTS.o.trans (aK hN.o ((D1 HX.o (by rw[HMB.o];exact Ox.o)).trans HMB.o) Ox.o qZ.o)).symm (Below.boxed B1.o)
  .have ek:k=b.ab.length:=by omega
   subst ek;go_wp2
   go_ret;exact aW.mk (r:=0) (HTS.o.trans hN.o).symm (Below.boxed hB.o)
theorem Je (w:World) (v vl:Value) (b:ao) (l:List Int) (hb:au w v b) (hl:an w vl l) (hp:1<=b.parts.length/\b.parts.length<=5) (MG:fE b) (jq:dp b l):
 Calls ZP 53 #[v,vl] w (aW w fun s=>s=0):=
 (pq w v vl b l hb hl hp MG).mono fun _ _ ⟨⟨r,h1,h2⟩,h3⟩=>⟨⟨r,h1,h2.trans (bI.2 jq)⟩,h3⟩
structure jH (w:World):Prop where
 c0:w.cell? ⟨0,0,none⟩=some (.func (.func 168) #[] #[])
 c1:w.cell? ⟨0,1,none⟩=some (.func (.func 169) #[] #[])
 c2:w.cell? ⟨0,2,none⟩=some (.func (.func 170) #[] #[])
 c3:w.cell? ⟨0,3,none⟩=some (.func (.func 171) #[] #[])
theorem jH.on {w:World} (h:jH w) (X:ai w):jH X.1:=⟨X.cell h.c0,X.cell h.c1,X.cell h.c2,X.cell h.c3⟩
theorem jH.later {w w':World} (h:jH w) (k:Below w.heap.size w w'):jH w':=h.on ⟨w',k⟩
section
variable (w:World)
theorem zaC:(Instr.index 100 (.agg #[.func (.func 168) #[] #[],.func (.func 169) #[] #[],.func (.func 170) #[] #[],.func (.func 171) #[] #[]]) (.int .i64 0)).run ZP w=.ok (.func (.func 168) #[] #[]) w:=by
 have u:ZP.underlying 100=some (.array 4 74):=by rw[Tz.under];exact Tryz.underlying100
 have a3:=Tryz.isAgg74;have z3:=Tryz.sizeOf74;simp[Instr.index,run_underlying u,asIntOf,part,go_sem,a3,z3]
theorem zaD:(Instr.index 100 (.agg #[.func (.func 168) #[] #[],.func (.func 169) #[] #[],.func (.func 170) #[] #[],.func (.func 171) #[] #[]]) (.int .i64 1)).run ZP w=.ok (.func (.func 169) #[] #[]) w:=by
 have u:ZP.underlying 100=some (.array 4 74):=by rw[Tz.under];exact Tryz.underlying100
 have a3:=Tryz.isAgg74;have z3:=Tryz.sizeOf74;simp[Instr.index,run_underlying u,asIntOf,part,go_sem,a3,z3]
theorem zaE:(Instr.index 100 (.agg #[.func (.func 168) #[] #[],.func (.func 169) #[] #[],.func (.func 170) #[] #[],.func (.func 171) #[] #[]]) (.int .i64 2)).run ZP w=.ok (.func (.func 170) #[] #[]) w:=by
 have u:ZP.underlying 100=some (.array 4 74):=by rw[Tz.under];exact Tryz.underlying100
 have a3:=Tryz.isAgg74;have z3:=Tryz.sizeOf74;simp[Instr.index,run_underlying u,asIntOf,part,go_sem,a3,z3]
theorem zaF:(Instr.index 100 (.agg #[.func (.func 168) #[] #[],.func (.func 169) #[] #[],.func (.func 170) #[] #[],.func (.func 171) #[] #[]]) (.int .i64 3)).run ZP w=.ok (.func (.func 171) #[] #[]) w:=by
 have u:ZP.underlying 100=some (.array 4 74):=by rw[Tz.under];exact Tryz.underlying100
 have a3:=Tryz.isAgg74;have z3:=Tryz.sizeOf74;simp[Instr.index,run_underlying u,asIntOf,part,go_sem,a3,z3]
end
section
variable {b:ao}
theorem Cp (h:bQ b≠0):aO b=bQ b:=by
 have h2:¬((1<=b.ak/\b.ak<=99)/\1<=b.places/\b.places<=4):=fun k=>h (dr.2 k);rw[jj h2];unfold aO;rw[if_neg h2]
theorem Cq (h0:bQ b=0) (h:bc b.places b.parts≠0):aO b=bc b.places b.parts:=by
 unfold aO;rw[if_pos (dr.1 h0),if_neg h]
theorem Cr (h0:bQ b=0) (h1:bc b.places b.parts=0) (h:bC b.parts.length b.apart≠0):aO b=bC b.parts.length b.apart:=by
 unfold aO;rw[if_pos (dr.1 h0),if_pos h1,if_neg h]
theorem qd (h0:bQ b=0) (h1:bc b.places b.parts=0) (h2:bC b.parts.length b.apart=0):aO b=cP b:=by
 unfold aO;rw[if_pos (dr.1 h0),if_pos h1,if_pos h2]
end
def Vd (b:ao) (k:Int):Prop:=k=0\/(k=1/\bQ b=0)\/(k=2/\bQ b=0/\bc b.places b.parts=0)\/(k=3/\bQ b=0/\bc b.places b.parts=0/\bC b.parts.length b.apart=0)\/(k=4/\aO b=0)
theorem lA (w:World) (v:Value) (b:ao) (hb:au w v b) (hs:de b) (hc:jH w):Calls ZP 20 #[v] w (aW w fun s=>s=aO b):=by
 have HB:=hid hb;have HS:Hid (de b):=hs;obtain⟨v2,v3,v4,rfl,⟨a2,c2,⟨rfl,_,_,_,_⟩,_⟩,⟨a3,c3,⟨rfl,_,_,_,_⟩,_⟩,⟨a4,c4,⟨rfl,_,_,_,_⟩,_⟩⟩:=hb;obtain⟨k0,k1,k2,k3⟩:=hc.later ((Below.refl _ _).alloc (Nat.le_refl _) (.cells #[.int .i64 b.ak,.int .i64 b.places,.slice a2 b.parts.length c2,.slice a3 b.apart.length c3,.slice a4 b.ab.length c4] 26));clear hs hc;go_enter ZF20,Tryz.ntmps20
 go_wp2
 go_loopw [7,4,5] (fun i u v w1=>∃k:Int,Hid (Vd b k)/\i=.int .i64 k/\Hid (Below (w.heap.size+1) (w.alloc (.cells #[.int .i64 b.ak,.int .i64 b.places,.slice a2 b.parts.length c2,.slice a3 b.apart.length c3,.slice a4 b.ab.length c4] 26)) w1)) (fun i _ _ _=>4-(intOf i).toNat)
 case atStart=>exact⟨0,(.inl rfl:_\/_),rfl,Below.refl _ _⟩
 case round=>
  obtain⟨k,hk,rfl,hB⟩:=hrel;clear k0 k1 k2 k3;obtain⟨s0,s1,s2,s3,s4⟩:=qC.QM hB.o;have bj:=HB.o.later (Kp.boxed hB.o);have hs:=hB.o.size;simp at hs;rcases hk.o with rfl|⟨rfl,ho⟩|⟨rfl,ho,hp⟩|⟨rfl,ho,hp,hq⟩|⟨rfl,hz⟩
  .have ix:=zaC wr;clear hk;go_wp2_with(go_at_call 168;refine(Ck _ _ _ bj).mono ?_;rintro e w1 ⟨⟨r,rfl,hr⟩,fk⟩;have HR:Hid (r=bQ b):=hr;clear hr;by_cases h0:r=0)
   .go_round
    case rel=>exact⟨1,(.inr (.inl ⟨rfl,by rw[<-HR.o];exact h0⟩):Vd b 1),rfl,hB.o.trans (fk.mono hs)⟩
    case measure=>simp[intOf]
   .go_ret;exact aW.mk (HR.o.trans (Cp (by rw[<-HR.o];exact h0)).symm) (Below.boxed (hB.o.trans (fk.mono hs)))
  .have ix:=zaD wr;have HO:=hid ho;have oz:=(dr.1 ho).2;clear hk ho;go_wp2_with(go_at_call 169;refine(Cm _ _ _ bj HS.o oz).mono ?_;rintro e w1 ⟨⟨r,rfl,hr⟩,fk⟩;have HR:Hid (r=bc b.places b.parts):=hr;clear hr;by_cases h0:r=0)
   .go_round
    case rel=>exact⟨2,(.inr (.inr (.inl ⟨rfl,HO.o,by rw[<-HR.o];exact h0⟩)):Vd b 2),rfl,hB.o.trans (fk.mono hs)⟩
    case measure=>simp[intOf]
   .go_ret;exact aW.mk (HR.o.trans (Cq HO.o (by rw[<-HR.o];exact h0)).symm) (Below.boxed (hB.o.trans (fk.mono hs)))
  .have ix:=zaE wr;have HO:Hid (bQ b=0/\bc b.places b.parts=0):=⟨ho,hp⟩
   have ME:=(eZ.1 hp).many;clear hk ho hp;go_wp2_with(go_at_call 170;refine(Cn _ _ _ bj ME).mono ?_;rintro e w1 ⟨⟨r,rfl,hr⟩,fk⟩;have HR:Hid (r=bC b.parts.length b.apart):=hr;clear hr;by_cases h0:r=0)
   .go_round
    case rel=>exact⟨3,(.inr (.inr (.inr (.inl ⟨rfl,HO.o.1,HO.o.2,by rw[<-HR.o];exact h0⟩))):Vd b 3),rfl,hB.o.trans (fk.mono hs)⟩
    case measure=>simp[intOf]
   .go_ret;exact aW.mk (HR.o.trans (Cr HO.o.1 HO.o.2 (by rw[<-HR.o];exact h0)).symm) (Below.boxed (hB.o.trans (fk.mono hs)))
  .have ix:=zaF wr;have HO:Hid (bQ b=0/\bc b.places b.parts=0/\bC b.parts.length b.apart=0):=⟨ho,hp,hq⟩
   have ME:=(eZ.1 hp).many;have MG:=iz.1 hq;clear hk ho hp hq;go_wp2_with(go_at_call 171;refine(zx _ _ _ bj ME MG).mono ?_;rintro e w1 ⟨⟨r,rfl,hr⟩,fk⟩;have HR:Hid (r=cP b):=hr;clear hr;by_cases h0:r=0)
   .go_round
    case rel=>exact⟨4,(.inr (.inr (.inr (.inr ⟨rfl,(qd HO.o.1 HO.o.2.1 HO.o.2.2).trans (by rw[<-HR.o];exact h0)⟩))):Vd b 4),rfl,hB.o.trans (fk.mono hs)⟩
    case measure=>simp[intOf]
   .go_ret;exact aW.mk (HR.o.trans (qd HO.o.1 HO.o.2.1 HO.o.2.2).symm) (Below.boxed (hB.o.trans (fk.mono hs)))
  .have HZ:=hid hz;clear hk hz;go_wp2
   go_ret;exact aW.mk (r:=0) HZ.o.symm (Below.boxed hB.o)
theorem zy {b:ao} (h:Valid b):de b:=fun j x hj hx=>by
 have:=(h.parts.all j x hj hx).1.name.2.1;omega
theorem mY (w:World) (v:Value) (b:ao) (hb:au w v b) (hv:Valid b) (hc:jH w):Calls ZP 20 #[v] w (aW w fun s=>s=0):=
 (lA w v b hb (zy hv) hc).mono fun _ _ ⟨⟨r,h1,h2⟩,h3⟩=>⟨⟨r,h1,h2.trans (cF.2 hv)⟩,h3⟩
end Go.Proofs.Cz
