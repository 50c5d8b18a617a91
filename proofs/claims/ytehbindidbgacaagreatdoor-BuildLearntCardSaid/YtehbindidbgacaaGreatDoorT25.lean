/- A part. Conditions: none. -/
import Derived.Test.YtehbindidbgacaaGreatDoorT24
import Derived.Laws.IdiomStrings
set_option linter.all false
set_option maxHeartbeats 8000000
set_option maxRecDepth 100000
namespace Go.Proofs.Cz
open Go.RowKit
theorem Dm (w:World) (s:ByteArray):∃cap w',(convert 9 202 (.string s)).run ZP w=.ok (.slice (some ⟨w.heap.size,0,none⟩) s.size cap) w'/\Below w.heap.size w w'/\∀j (hj:j<s.size),w'.cell? ⟨w.heap.size,j,none⟩=some (.int .u8 s[j].toNat):=by
 have u9:ZP.underlying 9=some .string:=by rw[Tz.under];exact Tryz.underlying9
 have u77:ZP.underlying 202=some (.slice 5):=by rw[Tz.under];exact Tryz.underlying202
 have u5:ZP.underlying 5=some (.int .u8):=by rw[Tz.under];exact Tryz.underlying5
 refine⟨_,_,run_bytes_of_string w 9 202 5 s u9 u77 u5,?_,?_⟩
 .exact Below.alloc (Below.drewN (Below.refl _ _) 1) (zAC _) _
 .intro j hj;exact(World.cell?_alloc_mark _ _ _ _ _).trans (bytesRow_at s _ j hj)
end Go.Proofs.Cz
namespace Go.Proofs.Cz
open Go.RowKit
end Go.Proofs.Cz
namespace Go.RowKit
theorem Below.step {B:Nat} {a w w1:World} {o:Obj} (h:Below B a w) (hs:B<=w.heap.size) (k:Below (w.alloc o).heap.size (w.alloc o) w1):Below B a w1:=
 (Below.alloc h hs o).trans (k.mono (by simp;omega))
end Go.RowKit
namespace Go.Proofs.Cz
open Go.RowKit
variable {a:Option Addr} {cap k n:Nat} {w:World}
theorem fm {w1:World} {cs:Array Value} {t:Nat} (h:Below (w.alloc (.cells cs t)).heap.size (w.alloc (.cells cs t)) w1) (k:Nat):w1.cell? ⟨w.heap.size,k,none⟩=cs[k]?:=boxed h.jt k
theorem bA.take {v:Value} (h:bA w v n a cap) (hk:k<=n):bA w (.slice a k cap) k a cap:=
 ⟨rfl,zAP hk h.le,h.NY,h.nil,h.row⟩
theorem bM.take {l:List Part} (h:bM w (.slice a n cap) l) (hk:k<=l.length):bM w (.slice a k cap) (l.take k):=by
 obtain⟨a',jO,h1,h2⟩:=h;obtain⟨rfl,-,rfl⟩:a=a'/\_/\cap=jO:=by simpa using h1.eq
 have hl:(l.take k).length=k:=by simp;omega
 refine⟨a,cap,by rw[hl];exact h1.take hk,λb e j x hj=>h2 b e j x ?_⟩;have ou:j<k:=by have:=(zAK.1 hj).1;omega
 rw[zDZ]at hj;simpa [ou]using hj
theorem da.take {l:List (Int×Int)} (h:da w (.slice a n cap) l) (hk:k<=l.length):da w (.slice a k cap) (l.take k):=by
 obtain⟨a',jO,h1,h2⟩:=h;obtain⟨rfl,-,rfl⟩:a=a'/\_/\cap=jO:=by simpa using h1.eq
 have hl:(l.take k).length=k:=by simp;omega
 refine⟨a,cap,by rw[hl];exact h1.take hk,λb e j x hj=>h2 b e j x ?_⟩;have ou:j<k:=by have:=(zAK.1 hj).1;omega
 rw[zDZ]at hj;simpa [ou]using hj
end Go.Proofs.Cz
namespace Go.Proofs.Cz
open Go.RowKit
theorem xQ (w:World) (s:ByteArray) (hs:s.size<=maxLen):Calls ZP 159 #[.string s] w (cI w λr=>Tr r (jC s)):=by
 unfold maxLen at hs;obtain⟨cap,w1,vO,hb,hc⟩:=Dm w s;have HB:=hid hb;have HC:=hid hc;clear hb hc;go_enter ZF159,Tryz.ntmps159
 go_wp2
 go_loop [8,3,4] (λi u v=>∃k:Nat,k<=s.size/\Hid (nB s k)/\i=.int .i64 k) (λi _ _=>s.size-(intOf i).toNat)
 case atStart=>exact⟨0,zAR _,(λj hj h=>absurd h (zEM j):nB s 0),rfl⟩
 case round=>
  obtain⟨k,hk,hN,rfl⟩:=hrel;by_cases az:k<s.size
  .have y0:=HC.o k az;have j0:(k:Int)<(s.size:Int):=by omega
   by_cases hl:tc (s[k].toNat)
   .have HL:=hid hl;obtain⟨a1,a2⟩:=hl;go_wp2
    go_round
    case rel=>exact⟨k+1,by omega,hN.o.succ az (.inl HL.o),by go_num⟩
    case measure=>simp[intOf];omega
   .have HL:=hid hl;by_cases hd:0<k/\Ar (s[k].toNat)
    .have HD:=hid hd;obtain⟨qT,a1,a2⟩:=hd;have iR:(0:Int)<(k:Int):=by omega
     have a3:¬(97:Int)<=s[k].toNat:=by omega
     clear hl;go_wp2
     go_round
     case rel=>exact⟨k+1,by omega,hN.o.succ az (.inr HD.o),by go_num⟩
     case measure=>simp[intOf];omega
    .have Km:Hid (¬jC s):=λh=>by
      rcases h.2.2 k az az with h1|h1
      .exact hl h1
      .exact hd h1
     by_cases b1:(97:Int)<=s[k].toNat
     .have b2:¬(s[k].toNat:Int)<=122:=λh=>hl ⟨b1,h⟩;by_cases qT:0<k
      .have iR:(0:Int)<(k:Int):=by omega
       have b4:(48:Int)<=s[k].toNat:=by omega
       have b5:¬(s[k].toNat:Int)<=57:=by omega
       clear hl hd vO;go_wp2
       go_ret;exact cI.mk (r:=false) ⟨(λh=>by cases h),λh=>absurd h Km.o⟩ HB.o
      .have iR:¬(0:Int)<(k:Int):=by omega
       clear hl hd vO;go_wp2
       go_ret;exact cI.mk (r:=false) ⟨(λh=>by cases h),λh=>absurd h Km.o⟩ HB.o
     .by_cases qT:0<k
      .have iR:(0:Int)<(k:Int):=by omega
       by_cases b4:(48:Int)<=s[k].toNat
       .have b5:¬(s[k].toNat:Int)<=57:=λh=>hd ⟨qT,b4,h⟩;clear hl hd vO;go_wp2
        go_ret;exact cI.mk (r:=false) ⟨(λh=>by cases h),λh=>absurd h Km.o⟩ HB.o
       .clear hl hd vO;go_wp2
        go_ret;exact cI.mk (r:=false) ⟨(λh=>by cases h),λh=>absurd h Km.o⟩ HB.o
      .have iR:¬(0:Int)<(k:Int):=by omega
       clear hl hd vO;go_wp2
       go_ret;exact cI.mk (r:=false) ⟨(λh=>by cases h),λh=>absurd h Km.o⟩ HB.o
  .have ek:k=s.size:=by omega
   subst ek;clear vO;go_wp2_with(go_at_call 92;refine(iU _ _ _ _).mono ?_;rintro e w' ⟨r,rfl,hr,rfl⟩)
   go_ret;exact cI.mk (r:=r) ⟨λh=>by have:=hr.1 h;exact⟨by omega,by omega,hN.o⟩,λh=>hr.2 ⟨by have:=h.1;omega,by have:=h.2.1;omega⟩⟩ HB.o
theorem uK (w:World) (g:Nat) (n1 nm:ByteArray) (a b c d:Int) (vf:Value) (af:Option Addr) (lf cf:Nat) (L6:vf=.slice af lf cf) (hg:w.cell? ⟨g,0,none⟩=some (.string nm)):
 Calls ZP 161 #[.agg #[.string n1,.int .i64 a,.int .i64 b,.int .i64 c,.int .i64 d,vf],.pointer (some ⟨g,0,none⟩)] w (cI w λr=>Tr r (n1=nm)):=by
 subst L6;have FH:=(Kp.alloc w (.cells #[.string n1,.int .i64 a,.int .i64 b,.int .i64 c,.int .i64 d,.slice af lf cf] 77))
 have L5:(w.alloc (.cells #[.string n1,.int .i64 a,.int .i64 b,.int .i64 c,.int .i64 d,.slice af lf cf] 77)).cell? ⟨g,0,none⟩=some (.string nm):=
  (aj.cell ⟨_,(Below.refl _ _).alloc (zAC _) _⟩ hg:_)
 clear FH;by_cases e:n1=nm
 .subst e;have hd:(n1.toList==n1.toList)=true:=by simp
  go_enter ZF161,Tryz.ntmps161
  go_wp2
  go_ret;exact cI.mk (r:=true) (by unfold Tr;simp) ((Below.refl _ _).alloc (zAC _) _)
 .have hd:(n1.toList==nm.toList)=false:=by
   cases hh:(n1.toList==nm.toList)with
   |false=>rfl
   |true=>exact absurd (EX hh) e
  have HE:Hid (n1≠nm):=e;clear e;go_enter ZF161,Tryz.ntmps161
  go_wp2
  go_ret;exact cI.mk (r:=false) ⟨(λh=>by cases h),λh=>absurd h HE.o⟩ ((Below.refl _ _).alloc (zAC _) _)
theorem xR (w:World) (v:Value) (l:List Part) (g:Nat) (nm:ByteArray) (h:bM w v l) (hg:w.cell? ⟨g,0,none⟩=some (.string nm)):
 Calls ZP 162 #[v,.func (.func 161) #[] #[.pointer (some ⟨g,0,none⟩)]] w (aY w λr=>r=-1/\gG l nm l.length\/0<=r/\∃i y,i<l.length/\l[i]?=some y/\y.name=nm):=by
 obtain⟨a,c,h1,h2⟩:=h;have H:Hid (bA w v l.length a c/\_):=⟨h1,h2⟩
 have HG:=hid hg;obtain⟨rfl,l1,m1,n1,r1⟩:=h1;unfold maxLen at m1;clear h2 n1 r1 hg;go_enter ZF162,Tryz.ntmps162
 go_wp2
 go_loopw [8,5] (λi j w1=>∃k:Nat,k<=l.length/\Hid (gG l nm k)/\i=.int .i64 k/\Hid (Below w.heap.size w w1)) (λi _ _=>l.length-(intOf i).toNat)
 case atStart=>exact⟨0,zAR _,gG.zero _ _,rfl,Below.refl _ _⟩
 case round=>
  obtain⟨k,hk,hN,rfl,hB⟩:=hrel;by_cases az:k<l.length
  .obtain⟨⟨blk,off,sp⟩,x,rfl,hx,x0,x1,x2,x3,x4,vf,x5,x6⟩:=H.o.1.elem H.o.2 az;obtain rfl:sp=none:=x0.1;obtain⟨af,cf,hf,_⟩:=x6;obtain⟨rfl,lf,mf,_,_⟩:=hf;have y0:=(x0.later (Kp.of hB.o)).2;have y1:=(x1.later (Kp.of hB.o)).2;have y2:=(x2.later (Kp.of hB.o)).2;have y3:=(x3.later (Kp.of hB.o)).2;have y4:=(x4.later (Kp.of hB.o)).2;have y5:=(x5.later (Kp.of hB.o)).2;simp only[<-zBE]at y0 y1 y2 y3 y4 y5;have j0:(k:Int)<(l.length:Int):=by omega
   have hgr:=aj.cell ⟨wr,hB.o⟩ HG.o;have HX:=hid hx;clear x0 x1 x2 x3 x4 x5 hx
   go_wp2_with
    (go_at_call 161
     refine(uK _ _ _ _ _ _ _ _ _ _ _ _ rfl hgr).mono ?_;rintro e w1 ⟨⟨r,rfl,hr⟩,bi⟩;cases r)
   .go_round
    case rel=>exact⟨k+1,by omega,hN.o.succ HX.o hr.f,by go_num,hB.o.trans (bi.mono hB.o.size)⟩
    case measure=>simp[intOf];omega
   .go_ret;exact aY.mk (r:=(k:Int)) (.inr ⟨by omega,k,x,az,HX.o,hr.t⟩) (hB.o.trans (bi.mono hB.o.size))
  .have ek:k=l.length:=by omega
   subst ek;go_wp2
   go_ret;exact aY.mk (r:=-1) (.inl ⟨rfl,hN.o⟩) hB.o
theorem xS (w:World) (v:Value) (l:List Part) (g:Nat) (nm:ByteArray) (h:bM w v l) (hg:w.cell? ⟨g,0,none⟩=some (.string nm)):
 Calls ZP 160 #[v,.func (.func 161) #[] #[.pointer (some ⟨g,0,none⟩)]] w (cI w λr=>Tr r (∃i y,i<l.length/\l[i]?=some y/\y.name=nm)):=by
 go_enter ZF160,Tryz.ntmps160
 go_wp2_with
  (go_at_call 162
   refine(xR _ _ _ _ _ h hg).mono ?_;rintro e w1 ⟨⟨r,rfl,hr⟩,bi⟩;have HR:=hid hr;clear hr)
 go_ret;refine cI.mk ?_ bi;unfold Tr;rcases HR.o with⟨rfl,h⟩|⟨h0,h⟩
 .simp only[zBZ];exact⟨λh1=>by omega,λ⟨i,y,hi,hy,e⟩=>absurd e (h i y hi hy)⟩
 .exact⟨λ_=>h,λ_=>by simp;omega⟩
theorem dg.eq {w:World} {P:Bool->Prop} {v:Value} {r:Bool} (h:P r) (e:v=.bool r):dg w P (.returned v) w:=by subst e;exact .mk h
theorem GK (w:World) (v:Value) (l:List Int) (x:Int) (h:am w v l):Calls ZP 106 #[v,.int .i64 x] w (λe w'=>∃r,e=.returned (.int .i64 r)/\(0<=r↔x∈l)/\w'=w):=by
 obtain⟨a,c,h1,h2⟩:=h;have H:Hid (bA w v l.length a c/\_):=⟨h1,h2⟩
 obtain⟨rfl,l1,m1,n1,r1⟩:=h1;unfold maxLen at m1;clear h2 n1 r1;go_enter ZF106,Tryz.ntmps106
 go_wp2
 go_loop [8,5] (λi j=>∃k:Nat,k<=l.length/\Hid (iT l x k)/\i=.int .i64 k) (λi _=>l.length-(intOf i).toNat)
 case atStart=>exact⟨0,zAR _,iT.zero l x,rfl⟩
 case round=>
  obtain⟨k,hk,hN,rfl⟩:=hrel;by_cases az:k<l.length
  .obtain⟨⟨blk,off,sp⟩,y,rfl,hy,y0⟩:=H.o.1.elem H.o.2 az;obtain rfl:sp=none:=y0.1;have g0:=y0.2;simp only at g0;have HY:=hid hy;have j0:(k:Int)<(l.length:Int):=by omega
   clear y0 hy;by_cases e:x=y
   .subst e;go_wp2
    go_ret;exact⟨k,rfl,⟨λ_=>zAX HY.o,λ_=>by omega⟩,rfl⟩
   .have e':Hid (y≠x):=λh=>e h.symm;go_wp2
    go_round
    case rel=>exact⟨k+1,by omega,hN.o.succ HY.o e'.out,by go_num⟩
    case measure=>simp[intOf];omega
  .have HN:Hid (x∉l):=(by have e:k=l.length:=by omega
                          subst e;exact hN.o.all)
   go_wp2
   go_ret;exact⟨-1,rfl,⟨λh=>by omega,λh=>absurd h HN.o⟩,rfl⟩
theorem kD (w:World) (v:Value) (l:List Int) (x:Int) (h:am w v l):Calls ZP 84 #[v,.int .i64 x] w (dg w λr=>Tr r (x∈l)):=by
 go_enter ZF84,Tryz.ntmps84
 go_wp2_with
  (go_at_call 106
   refine(GK _ _ _ x h).mono ?_;rintro e w1 ⟨r,rfl,hr,rfl⟩;by_cases h0:0<=r)
 .have hx:Hid (x∈l):=hr.1 h0;go_ret;exact dg.eq (r:=true) (Tr.yes hx.o) (by simp[hx.o])
 .have hx:Hid (¬x∈l):=λh=>by have:=hr.2 h;omega
  go_ret;exact dg.eq (r:=false) (Tr.no hx.o) (by simp[hx.o])
theorem uL (w:World) (v:Value) (l:List (Int×Int)) (p q:Int) (h:da w v l):
 Calls ZP 136 #[v,.agg #[.int .i64 p,.int .i64 q]] w (aY w λr=>0<=r↔(p,q)∈l):=by
 obtain⟨a,c,h1,h2⟩:=h;have H:Hid (bA w v l.length a c/\_):=⟨h1,h2⟩
 obtain⟨rfl,l1,m1,n1,r1⟩:=h1;unfold maxLen at m1;clear h2 n1 r1;go_enter ZF136,Tryz.ntmps136
 go_wp2
 go_loopw [8,5] (λi j w1=>∃k:Nat,k<=l.length/\Hid (gH l (p,q) k)/\i=.int .i64 k/\∃n,w1=(w.alloc (.cells #[.int .i64 p,.int .i64 q] 125)).drewN n) (λi _ _=>l.length-(intOf i).toNat)
 case atStart=>exact⟨0,zAR _,gH.zero l _,rfl,0,rfl⟩
 case round=>
  obtain⟨k,hk,hN,rfl,n0,rfl⟩:=hrel;by_cases az:k<l.length
  .obtain⟨⟨blk,off,sp⟩,⟨ya,yb⟩,rfl,hy,y0,y1⟩:=H.o.1.elem H.o.2 az;obtain rfl:sp=none:=y0.1;have g0:=(y0.later (Kp.alloc w (.cells #[.int .i64 p,.int .i64 q] 125))).2;have g1:=(y1.later (Kp.alloc w (.cells #[.int .i64 p,.int .i64 q] 125))).2;simp only[<-zBE]at g0 g1;have HY:=hid hy;have j0:(k:Int)<(l.length:Int):=by omega
   clear y0 y1 hy;by_cases e1:p=ya
   .subst e1;by_cases e2:q=yb
    .subst e2;go_wp2
     go_quiet (fail)
     go_wp2
     go_ret;exact aY.mk (r:=k) ⟨λ_=>zAX HY.o,λ_=>by omega⟩ (Below.drewN (Below.drewN (Below.alloc (Below.refl _ _) (zAC _) _) _) _)
    .have bE:Hid ((p,yb)≠(p,q)):=(λh=>e2 (by cases h;rfl):(p,yb)≠(p,q))
     go_wp2
     go_quiet (fail)
     go_wp2
     go_round
     case rel=>exact⟨k+1,by omega,hN.o.succ HY.o bE.o,by go_num,_,rfl⟩
     case measure=>simp[intOf];omega
   .have bE:Hid ((ya,yb)≠(p,q)):=(λh=>e1 (by cases h;rfl):(ya,yb)≠(p,q))
    go_wp2
    go_quiet (fail)
    go_wp2
    go_round
    case rel=>exact⟨k+1,by omega,hN.o.succ HY.o bE.o,by go_num,_,rfl⟩
    case measure=>simp[intOf];omega
  .have HN:Hid ((p,q)∉l):=(by
    have e:k=l.length:=by omega
    subst e;intro hm;obtain⟨j,hj,ou⟩:=zCI hm;exact hN.o j _ hj (zAJ hj) ou)
   go_wp2
   go_ret;exact aY.mk (r:=-1) ⟨λh=>by omega,λh=>absurd h HN.o⟩ (Below.drewN (Below.alloc (Below.refl _ _) (zAC _) _) _)
theorem dG (w:World) (v:Value) (l:List (Int×Int)) (p q:Int) (h:da w v l):
 Calls ZP 122 #[v,.agg #[.int .i64 p,.int .i64 q]] w (cI w λr=>Tr r ((p,q)∈l)):=by
 go_enter ZF122,Tryz.ntmps122
 have h':=h.later (Kp.alloc w (.cells #[.int .i64 p,.int .i64 q] 125))
 go_wp2_with
  (go_at_call 136
   refine(uL _ _ _ p q h').mono ?_;rintro e w1 ⟨⟨r,rfl,hr⟩,bi⟩;by_cases h0:0<=r)
 .have hx:Hid ((p,q)∈l):=hr.1 h0;go_ret;exact cI.eq (r:=true) (Tr.yes hx.o) (Below.step (Below.refl _ _) (zAC _) bi) (by simp[hx.o])
 .have hx:Hid (¬(p,q)∈l):=λh=>by have:=hr.2 h;omega
  go_ret;exact cI.eq (r:=false) (Tr.no hx.o) (Below.step (Below.refl _ _) (zAC _) bi) (by simp[hx.o])
open Classical in
noncomputable def bR (b:ap):Int:=if(1<=b.ac/\b.ac<=99)/\1<=b.places/\b.places<=4 then 0 else 1
theorem dH {b:ap}:bR b=0↔(1<=b.ac/\b.ac<=99)/\1<=b.places/\b.places<=4:=by
 unfold bR;split
 .rename_i h;exact⟨λ_=>h,λ_=>rfl⟩
 .rename_i h;exact⟨λh1=>absurd h1 (by decide),λh2=>absurd h2 h⟩
theorem jD {b:ap} (h:¬((1<=b.ac/\b.ac<=99)/\1<=b.places/\b.places<=4)):bR b=1:=by unfold bR;rw[zAH h]
theorem Dn (w:World) (v:Value) (b:ap) (hb:ar w v b):Calls ZP 155 #[v] w (aY w λr=>r=bR b):=by
 obtain⟨v2,v3,v4,rfl,⟨a2,c2,⟨rfl,_,_,_,_⟩,_⟩,⟨a3,c3,⟨rfl,_,_,_,_⟩,_⟩,⟨a4,c4,⟨rfl,_,_,_,_⟩,_⟩⟩:=hb;go_enter ZF155,Tryz.ntmps155
 go_wp2_with(first
  |(go_at_call 92;(with_reducible refine(iU _ b.ac _ _).mono ?_);rintro e w' ⟨r,rfl,su,rfl⟩;cases r)
  |(go_at_call 92;(with_reducible refine(iU _ b.places _ _).mono ?_);rintro e w' ⟨r,rfl,rf,rfl⟩;cases r))
 .go_ret;exact aY.mk (r:=1) (jD λh=>su.f h.1).symm ((Below.refl _ _).alloc (zAC _) _)
 .go_ret;exact aY.mk (r:=1) (jD λh=>rf.f h.2).symm ((Below.refl _ _).alloc (zAC _) _)
 .go_ret;exact aY.mk (r:=0) (dH.2 ⟨su.t,rf.t⟩).symm ((Below.refl _ _).alloc (zAC _) _)
theorem Do (w:World) (v:Value) (b:ap) (hb:ar w v b) (hs:fS b) (wI:1<=b.places/\b.places<=4):Calls ZP 156 #[v] w (aY w λr=>r=bI b.places b.parts):=by
 obtain⟨v2,v3,v4,rfl,Kn,h3,h4⟩:=hb;have Ko:=hid Kn;have HS:Hid (fS b):=hs;obtain⟨a2,c2,h2,f2⟩:=Kn;have H2:Hid (bA w v2 b.parts.length a2 c2/\_):=⟨h2,f2⟩
 obtain⟨rfl,l2,m2,n2,r2⟩:=h2;obtain⟨a3,c3,⟨rfl,_,_,_,_⟩,_⟩:=h3;obtain⟨a4,c4,⟨rfl,_,_,_,_⟩,_⟩:=h4;unfold maxLen at m2;clear r2 f2 n2 hs;go_enter ZF156,Tryz.ntmps156
 go_wp2_with(go_at_call 92;refine(iU _ _ _ _).mono ?_;rintro e w' ⟨r,rfl,hr,rfl⟩;cases r)
 .go_ret;exact aY.mk (r:=2) (by unfold bI;rw[zAH (λh=>hr.f (by omega))]) ((Below.refl _ _).alloc (zAC _) _)
 have hm:=hr.t;have E0:Hid (bI b.places b.parts=scan (cW b.places b.parts) b.parts.length):=Dk (by omega);clear hr;go_loopw [17,3,4] (λi u v w1=>∃k:Nat,k<=b.parts.length/\i=.int .i64 k/\Hid (scan (cW b.places b.parts) k=0)/\Hid (Below (w.heap.size+1) (w.alloc (.cells #[.int .i64 b.ac,.int .i64 b.places,.slice a2 b.parts.length c2,.slice a3 b.apart.length c3,.slice a4 b.aa.length c4] 84)) w1)) (λi _ _ _=>b.parts.length-(intOf i).toNat)
 case atStart=>exact⟨0,zAR _,rfl,rfl,Below.refl _ _⟩
 case round=>
  obtain⟨k,hk,rfl,hN,hB⟩:=hrel;have g1:=boxed hB.o 1;have g2:=boxed hB.o 2;simp only[zCC,zBM,zBC]at g1 g2;by_cases az:k<b.parts.length
  .obtain⟨⟨blk,off,sp⟩,x,rfl,hx,x0,x1,x2,x3,x4,vf,x5,x6⟩:=H2.o.1.elem H2.o.2 az;obtain rfl:sp=none:=x0.1;have x7:=x6.later (Kp.boxed hB.o);obtain⟨af,cf,hf,_⟩:=x6;obtain⟨rfl,lf,mf,_,_⟩:=hf;unfold maxLen at mf;have HX:Hid (b.parts[k]?=some x/\am wr (.slice af x.fits.length cf) x.fits):=⟨hx,x7⟩
   have bW:x.name.size<=maxLen:=by have:=HS.o k x az hx;unfold maxLen;omega
   have ue:=hid az;have y0:=(x0.later (Kp.boxed hB.o)).2;have y1:=(x1.later (Kp.boxed hB.o)).2;have y2:=(x2.later (Kp.boxed hB.o)).2;have y3:=(x3.later (Kp.boxed hB.o)).2;have y4:=(x4.later (Kp.boxed hB.o)).2;have y5:=(x5.later (Kp.boxed hB.o)).2;simp only[<-zBE]at y0 y1 y2 y3 y4 y5;have jr:w.heap.size+1<=wr.heap.size:=by have:=hB.o.size;simp at this;omega
   have kr:blk<w.heap.size:=x0.lt;have j0:(k:Int)<(b.parts.length:Int):=by omega
   clear x0 x1 x2 x3 x4 x5 x7 hx
   go_wp2_with(first
    |(go_at_call 159
      refine(xQ _ _ bW).mono ?_;rintro e w1 ⟨⟨r,rfl,S7⟩,bi⟩;have B1:Hid (Below (w.heap.size+1) _ w1):=hB.o.step jr bi;have p0:=fm bi 0;have p1:=fm bi 1;have p2:=fm bi 2;have p3:=fm bi 3;have p4:=fm bi 4;have p5:=fm bi 5;have q1:=boxed B1.o 1;have q2:=boxed B1.o 2;simp only[zCC,zBM,zBC]at p0 p1 p2 p3 p4 p5 q1 q2;cases r)
    |(go_at_call 160
      refine(xS _ _ (b.parts.take k) _ x.name ((Ko.o.later (Kp.boxed B1.o)).take hk) p0).mono ?_;rintro e w2 ⟨⟨r,rfl,P0⟩,fJ⟩;have B2:Hid (Below (w.heap.size+1) _ w2):=B1.o.trans (fJ.mono (by have:=B1.o.size;simpa using this));have s1:=aj.cell ⟨w2,fJ⟩ p1;have s2:=aj.cell ⟨w2,fJ⟩ p2;have s3:=aj.cell ⟨w2,fJ⟩ p3;have s4:=aj.cell ⟨w2,fJ⟩ p4;have s5:=aj.cell ⟨w2,fJ⟩ p5;have t1:=aj.cell ⟨w2,fJ⟩ q1;simp only at s1 s2 s3 s4 s5 t1;have s5a:∀o,(w2.alloc o).cell? ⟨wr.heap.size,5,none⟩=_:=λo=>aj.cell ⟨w2.alloc o,(Below.refl _ _).alloc (zAC _) o⟩ s5;have t1a:∀o,(w2.alloc o).cell? ⟨w.heap.size,1,none⟩=_:=λo=>aj.cell ⟨w2.alloc o,(Below.refl _ _).alloc (zAC _) o⟩ t1;have HF:Hid (∀o,am (w2.alloc o) (.slice af x.fits.length cf) x.fits):=λo=>(HX.o.2.later (Kp.trans (Kp.alloc wr _) (Kp.of bi) (by simp))).later (Kp.trans (Kp.of fJ) (Kp.alloc w2 o) fJ.size)
      have qH:Hid (r=true\/gG b.parts x.name k):=(by
       cases r with
       |true=>exact .inl rfl
       |false=>exact .inr λi y hi hy e=>P0.f ⟨i,y,by rw[List.length_take];omega,by rw[zFM hi];exact hy,e⟩)
      have HNY:Hid (r=false\/∃i y,i<k/\b.parts[i]?=some y/\y.name=x.name):=(by
       cases r with
       |false=>exact .inl rfl
       |true=>
        obtain⟨i,y,hi,hy,e⟩:=P0.t;have Ik:i<k:=by rw[List.length_take]at hi;omega
        exact .inr ⟨i,y,Ik,by rw[zFM Ik]at hy;exact hy,e⟩)
      clear p0 p1 p2 p3 p4 p5 q1 q2 P0;cases r)
    |(go_at_call 92;(with_reducible refine(iU _ x.cost _ _).mono ?_);rintro e w' ⟨r,rfl,hrc,rfl⟩;cases r)
    |(go_at_call 92;(with_reducible refine(iU _ x.bY _ _).mono ?_);rintro e w' ⟨r,rfl,Sn,rfl⟩;cases r)
    |(go_at_call 77;refine(kv _ _ _ _ _ (by omega) _).mono ?_;rintro e w' ⟨r,rfl,hrx,rfl⟩;cases r))
   .go_ret;exact aY.mk (r:=4) (E0.o.trans (cg hN.o (SX HX.o.1 S7.f) (by decide) ue.o)).symm (Below.boxed B1.o)
   .go_ret;exact aY.mk (r:=1) (E0.o.trans (cg hN.o (Dj HX.o.1 S7.t (qH.o.resolve_left (by simp)) λh=>hrc.f h.1) (by decide) ue.o)).symm (Below.boxed B2.o)
   .go_ret;exact aY.mk (r:=1) (E0.o.trans (cg hN.o (Dj HX.o.1 S7.t (qH.o.resolve_left (by simp)) λh=>Sn.f h.2.1) (by decide) ue.o)).symm (Below.boxed B2.o)
   .go_ret;exact aY.mk (r:=1) (E0.o.trans (cg hN.o (Dj HX.o.1 S7.t (qH.o.resolve_left (by simp)) λh=>hrx.f ⟨h.2.2.1.1,h.2.2.1.2.1,h.2.2.1.2.2,h.2.2.2⟩) (by decide) ue.o)).symm (Below.boxed (Below.alloc B2.o (by have:=B2.o.size;simpa using this) _))
   .have HPB:Hid (cW b.places b.parts k=scan (gP b.places x.fits) x.fits.length):=(by
     have h:=hrx.t;exact Kj HX.o.1 S7.t (qH.o.resolve_left (by simp)) ⟨hrc.t,Sn.t,⟨h.1,h.2.1,h.2.2.1⟩,h.2.2.2⟩)
    have BI:wrap64 (b.places-1)=b.places-1:=by unfold wrap64;omega
    have fL:Hid (Below w.heap.size w _):=Below.boxed (Below.alloc B2.o (by have:=B2.o.size;simpa using this) (.cells #[.int .i64 x.lo,.int .i64 x.hi] 43));clear S7 hrc Sn hrx bi fJ;go_loop [51,5,6] (λi u v=>∃m:Nat,m<=x.fits.length/\i=.int .i64 m/\Hid (scan (gP b.places x.fits) m=0)) (λi _ _=>x.fits.length-(intOf i).toNat)
    case atStart=>exact⟨0,zAR _,rfl,rfl⟩
    case round=>
     obtain⟨m,hm2,rfl,hM⟩:=hrel;by_cases jg:m<x.fits.length
     .obtain⟨a',jO,BA,Xw⟩:=HF.o (.cells #[.int .i64 x.lo,.int .i64 x.hi] 43);have he:=BA.eq;simp only[Value.slice.injEq]at he;obtain⟨rfl,-,rfl⟩:=he;obtain⟨⟨fb,fo,fs⟩,y,rfl,hy,y0⟩:=BA.elem Xw jg;obtain rfl:fs=none:=y0.1;have z0:=y0.2;simp only at z0;have HY:=hid hy;have HMK:=hid jg;have Xs:(m:Int)<(x.fits.length:Int):=by omega
      by_cases sR:0<=y/\y<=b.places-1
      .have e3:(decide (0<=y)&&decide (y<=b.places-1))=true:=by simpa using sR
       have S8:=hid sR;clear sR;by_cases BO:0<m
       .obtain⟨b',z,yX,P6,z1⟩:=BA.elem Xw (show m-1<x.fits.length by omega);cases yX;have z1:=z1.2;simp only at z1;have HZ:Hid (x.fits[m-1]?=some z):=P6;have P8:Hid (0<m):=BO;have pg:wrap64 ((m:Int)-1)=((m-1:Nat):Int):=by unfold wrap64;omega
        have iR:(0:Int)<(m:Int):=by omega
        have lN:((m-1:Nat):Int)<(x.fits.length:Int):=by omega
        clear P6 BA Xw y0 hy;by_cases hzy:y<=z
        .have HZY:Hid (y<=z):=hzy;go_wp2_with(go_at_call 92;refine(cD _ _ _ _).mono ?_;rw[e3];rintro e w' ⟨rfl,rfl⟩)
         go_ret;exact aY.mk (r:=7) (E0.o.trans (cg hN.o (HPB.o.trans (cg hM.o (Xu HY.o S8.o P8.o HZ.o HZY.o) (by decide) HMK.o)) (by decide) ue.o)).symm fL.o
        .have HZY:Hid (z<y):=Int.lt_of_not_ge hzy;go_wp2_with(go_at_call 92;refine(cD _ _ _ _).mono ?_;rw[e3];rintro e w' ⟨rfl,rfl⟩)
         go_round
         case rel=>exact⟨m+1,by omega,by go_num,my hM.o (Ki HY.o S8.o λz' _ kr=>by rw[HZ.o]at kr;cases kr;exact HZY.o)⟩
         case measure=>simp[intOf];omega
       .have iR:¬(0:Int)<(m:Int):=by omega
        have P8:Hid (¬0<m):=BO;clear BA Xw y0 hy;go_wp2_with(go_at_call 92;refine(cD _ _ _ _).mono ?_;rw[e3];rintro e w' ⟨rfl,rfl⟩)
        go_round
        case rel=>exact⟨m+1,by omega,by go_num,my hM.o (Ki HY.o S8.o λz' h _=>absurd h P8.o)⟩
        case measure=>simp[intOf];omega
      .have e3:(decide (0<=y)&&decide (y<=b.places-1))=false:=by
        cases hd:(decide (0<=y)&&decide (y<=b.places-1))with
        |false=>rfl
        |true=>exact absurd (by simpa using hd) sR
       have S8:=hid sR;clear sR BA Xw y0 hy;go_wp2_with(go_at_call 92;refine(cD _ _ _ _).mono ?_;rw[e3];rintro e w' ⟨rfl,rfl⟩)
       go_ret;exact aY.mk (r:=6) (E0.o.trans (cg hN.o (HPB.o.trans (cg hM.o (Xt HY.o S8.o) (by decide) HMK.o)) (by decide) ue.o)).symm fL.o
     .have em:m=x.fits.length:=by omega
      subst em;have HK:Hid (cW b.places b.parts k=0):=HPB.o.trans hM.o;go_wp2
      go_round
      case rel=>exact⟨k+1,by omega,by go_num,my hN.o HK.o,(Below.alloc B2.o (by have:=B2.o.size;simpa using this) _:Below _ _ _)⟩
      case measure=>simp[intOf];omega
   .obtain⟨i,y,hi,hy,LP⟩:=HNY.o.resolve_left (by simp);go_ret;exact aY.mk (r:=5) (E0.o.trans (cg hN.o (SY HX.o.1 S7.t hi hy LP) (by decide) ue.o)).symm (Below.boxed B2.o)
  .have ek:k=b.parts.length:=by omega
   subst ek;go_wp2
   go_ret;exact aY.mk (r:=0) (E0.o.trans hN.o).symm (Below.boxed hB.o)
theorem Dp (w:World) (v:Value) (b:ap) (hb:ar w v b) (E4:1<=b.parts.length/\b.parts.length<=5):Calls ZP 157 #[v] w (aY w λr=>r=ci b.parts.length b.apart):=by
 obtain⟨v2,v3,v4,rfl,h2,Kn,h4⟩:=hb;have Ko:=hid Kn;obtain⟨a3,c3,h3,f3⟩:=Kn;have H3:Hid (bA w v3 b.apart.length a3 c3/\_):=⟨h3,f3⟩
 obtain⟨rfl,l3,m3,n3,r3⟩:=h3;obtain⟨a2,c2,⟨rfl,_,m2,_,_⟩,_⟩:=h2;obtain⟨a4,c4,⟨rfl,_,_,_,_⟩,_⟩:=h4;unfold maxLen at m3;clear r3 f3 n3 m2;have jJ:wrap64 ((b.parts.length:Int)-1)=b.parts.length-1:=by unfold wrap64;omega
 by_cases GL:(5:Int)<(b.apart.length:Int)
 .go_enter ZF157,Tryz.ntmps157
  go_wp2
  go_ret;exact aY.mk (r:=2) (by unfold ci;rw[zAH (by omega)]) ((Below.refl _ _).alloc (zAC _) _)
 have E0:Hid (ci b.parts.length b.apart=scan (dE b.parts.length b.apart) b.apart.length):=Dl (by omega);go_enter ZF157,Tryz.ntmps157
 go_wp2
 go_loopw [14,3,4] (λi u v w1=>∃k:Nat,k<=b.apart.length/\i=.int .i64 k/\Hid (scan (dE b.parts.length b.apart) k=0)/\Hid (Below (w.heap.size+1) (w.alloc (.cells #[.int .i64 b.ac,.int .i64 b.places,.slice a2 b.parts.length c2,.slice a3 b.apart.length c3,.slice a4 b.aa.length c4] 84)) w1)) (λi _ _ _=>b.apart.length-(intOf i).toNat)
 case atStart=>exact⟨0,zAR _,rfl,rfl,Below.refl _ _⟩
 case round=>
  obtain⟨k,hk,rfl,hN,hB⟩:=hrel;have g2:=boxed hB.o 2;have g3:=boxed hB.o 3;simp only[zCC,zBM,zBC]at g2 g3;by_cases az:k<b.apart.length
  .obtain⟨⟨blk,off,sp⟩,⟨xa,xb⟩,rfl,hx,x0,x1⟩:=H3.o.1.elem H3.o.2 az;obtain rfl:sp=none:=x0.1;have HX:=hid hx;have ue:=hid az;have y0:=(x0.later (Kp.boxed hB.o)).2;have y1:=(x1.later (Kp.boxed hB.o)).2;simp only[<-zBE]at y0 y1;have jr:w.heap.size+1<=wr.heap.size:=by have:=hB.o.size;simp at this;omega
   have kr:blk<w.heap.size:=x0.lt;have j0:(k:Int)<(b.apart.length:Int):=by omega
   have iR:(k:Int)<=(c3:Int):=by omega
   clear x0 x1 hx;have HA:Hid (Below w.heap.size w (wr.alloc (.cells #[.int .i64 xa,.int .i64 xb] 125))):=Below.one (Below.boxed hB.o) (by omega) _ 0;have VA:∀o,(wr.alloc o).cell? ⟨w.heap.size,2,none⟩=some (.slice a2 b.parts.length c2):=λo=>(dW (by show w.heap.size<_;omega) o).trans g2;by_cases h1:0<=xa/\xa<=(b.parts.length:Int)-1
   .have e1:(decide (0<=xa)&&decide (xa<=(b.parts.length:Int)-1))=true:=by simpa using h1
    have N8:=hid h1;clear h1;by_cases h2:0<=xb/\xb<=(b.parts.length:Int)-1
    .have e2:(decide (0<=xb)&&decide (xb<=(b.parts.length:Int)-1))=true:=by simpa using h2
     have Xx:=hid h2;clear h2;by_cases h3:xb<xa
     .have HN3:Hid (¬xa<=xb):=Int.not_le.2 h3;go_wp2_with(go_at_call 92;refine(cD _ _ _ _).mono ?_;(first|rw[e1]|rw[e2]);rintro e w' ⟨rfl,rfl⟩)
      go_ret;exact aY.mk (r:=7) (E0.o.trans (cg hN.o (S5 HX.o ⟨N8.o,Xx.o⟩ (λ(h:xa<=xb)=>by have:=HN3.o;omega)) (by decide) ue.o)).symm HA.o
     .have P9:Hid (pR b.parts.length (xa,xb)):=⟨N8.o,Xx.o,Int.not_lt.1 h3⟩
      have G3:∀X:aj (wr.alloc (.cells #[.int .i64 xa,.int .i64 xb] 125)),X.1.cell? ⟨w.heap.size,3,none⟩=some (.slice (some ⟨blk,off,none⟩) b.apart.length c3):=λX=>
       X.cell ((dW (by show w.heap.size<_;omega) _).trans g3)
      have T0:∀X:aj (wr.alloc (.cells #[.int .i64 xa,.int .i64 xb] 125)),X.1.cell? ⟨wr.heap.size,0,none⟩=some (.int .i64 xa):=λX=>fm X.2 0;have T1:∀X:aj (wr.alloc (.cells #[.int .i64 xa,.int .i64 xb] 125)),X.1.cell? ⟨wr.heap.size,1,none⟩=some (.int .i64 xb):=λX=>fm X.2 1;have hz:=hid jr;by_cases eu:(xa,xb)∈b.apart.take k
      .have UM:Hid (∃i,i<k/\b.apart[i]?=some (xa,xb)):=by
        obtain⟨j,hj,ou⟩:=zCI eu;rw[List.getElem_take]at ou;have Pp:j<b.apart.length:=by simp at hj;omega
        exact⟨j,by simp at hj;omega,by rw[zAJ Pp,ou]⟩
       have nF:∀X:aj (wr.alloc (.cells #[.int .i64 xa,.int .i64 xb] 125)),Calls ZP 122 #[.slice (some ⟨blk,off,none⟩) k c3,.agg #[.int .i64 xa,.int .i64 xb]] X.1 (λe iu=>e=.returned (.bool true)/\∃Y:aj (wr.alloc (.cells #[.int .i64 xa,.int .i64 xb] 125)),iu=Y.1):=λX=>
        (dG _ _ _ _ _ (((Ko.o.later (Kp.boxed hB.o)).later (Kp.trans (Kp.alloc wr _) X.kp (by simp))).take hk)).mono λe w' ⟨⟨r,h1,h2⟩,h3⟩=>⟨by cases r with
          |true=>exact h1
          |false=>exact absurd eu h2.f,X.on h3⟩
       clear eu;go_wp2_with(go_at_call 92;refine(cD _ _ _ _).mono ?_;(first|rw[e1]|rw[e2]);rintro e w' ⟨rfl,rfl⟩)
       refine ao (by kernel_rfl) (by kernel_rfl) ?_;repeat(go_big_quiet_step (first|(go_at_call 122;exact nF _)))
       refine wpQuiet_nil ?_;rintro _ ⟨X,rfl⟩;go_wp2
       go_ret;obtain⟨i,hi,hy⟩:=UM.o;exact aY.mk (r:=5) (E0.o.trans (cg hN.o (S6 HX.o P9.o hi hy) (by decide) ue.o)).symm (Below.boxed (hB.o.step hz.o X.2))
      .have HNP:Hid (gH b.apart (xa,xb) k):=λi y hi hy e=>by
        subst e;have E5:=(zAK.1 hy)
        exact eu (List.mem_iff_getElem?.2 ⟨i,by rw[zFM hi];exact hy⟩)
       have nF:∀X:aj (wr.alloc (.cells #[.int .i64 xa,.int .i64 xb] 125)),Calls ZP 122 #[.slice (some ⟨blk,off,none⟩) k c3,.agg #[.int .i64 xa,.int .i64 xb]] X.1 (λe iu=>e=.returned (.bool false)/\∃Y:aj (wr.alloc (.cells #[.int .i64 xa,.int .i64 xb] 125)),iu=Y.1):=λX=>
        (dG _ _ _ _ _ (((Ko.o.later (Kp.boxed hB.o)).later (Kp.trans (Kp.alloc wr _) X.kp (by simp))).take hk)).mono λe w' ⟨⟨r,h1,h2⟩,h3⟩=>⟨by cases r with
          |false=>exact h1
          |true=>exact absurd h2.t eu,X.on h3⟩
       clear eu;go_wp2_with(go_at_call 92;refine(cD _ _ _ _).mono ?_;(first|rw[e1]|rw[e2]);rintro e w' ⟨rfl,rfl⟩)
       refine ao (by kernel_rfl) (by kernel_rfl) ?_;repeat(go_big_quiet_step (first|(go_at_call 122;exact nF _)))
       refine wpQuiet_nil ?_;rintro _ ⟨X,rfl⟩;go_wp2
       go_round
       case rel=>exact⟨k+1,by omega,by go_num,my hN.o (Kl HX.o P9.o HNP.o),hB.o.step hz.o X.2⟩
       case measure=>simp[intOf];omega
    .have e2:(decide (0<=xb)&&decide (xb<=(b.parts.length:Int)-1))=false:=by
      cases hd:(decide (0<=xb)&&decide (xb<=(b.parts.length:Int)-1))with
      |false=>rfl
      |true=>exact absurd (by simpa using hd) h2
     have Xx:=hid h2;clear h2;by_cases IX:xa=xb
     .exact absurd N8.o (by rw[IX];exact Xx.o)
     .clear IX;go_wp2_with(go_at_call 92;refine(cD _ _ _ _).mono ?_;(first|rw[e1]|rw[e2]);rintro e w' ⟨rfl,rfl⟩)
      go_ret;exact aY.mk (r:=6) (E0.o.trans (cg hN.o (Kk HX.o λh=>Xx.o h.2) (by decide) ue.o)).symm HA.o
   .have e1:(decide (0<=xa)&&decide (xa<=(b.parts.length:Int)-1))=false:=by
     cases hd:(decide (0<=xa)&&decide (xa<=(b.parts.length:Int)-1))with
     |false=>rfl
     |true=>exact absurd (by simpa using hd) h1
    have N8:=hid h1;clear h1;go_wp2_with(go_at_call 92;refine(cD _ _ _ _).mono ?_;rw[e1];rintro e w' ⟨rfl,rfl⟩)
    go_ret;exact aY.mk (r:=6) (E0.o.trans (cg hN.o (Kk HX.o λh=>N8.o h.1) (by decide) ue.o)).symm HA.o
  .have ek:k=b.apart.length:=by omega
   subst ek;go_wp2
   go_ret;exact aY.mk (r:=0) (E0.o.trans hN.o).symm (Below.boxed hB.o)
theorem vP {b:ap} (h:fy b) (p q:Int):(min p q,max p q)∈b.apart↔Apart b.apart p q:=by
 constructor
 .intro hm;refine⟨_,hm,?_⟩;by_cases e:p<=q
  .left;simp only;omega
  .right;simp only;omega
 .rintro⟨⟨x,y⟩,hm,hx⟩;obtain⟨j,hj,ou⟩:=zCI hm;have hle:=(h.all j _ hj (by rw[zAJ hj,ou])).1.le
  have:(min p q,max p q)=(x,y):=by
   rcases hx with⟨rfl,rfl⟩|⟨rfl,rfl⟩<;>simp only at*<;>ext<;>simp only<;>omega
  rw[this];exact hm
theorem nG (w:World) (v:Value) (b:ap) (p q:Int) (hb:ar w v b) (h:fy b):
 Calls ZP 100 #[v,.int .i64 p,.int .i64 q] w (cI w λr=>Tr r (Apart b.apart p q)):=by
 obtain⟨v2,v3,v4,rfl,h2,UN,h4⟩:=hb;obtain⟨a2,c2,⟨rfl,_,_,_,_⟩,_⟩:=h2;obtain⟨a4,c4,⟨rfl,_,_,_,_⟩,_⟩:=h4;have hP0:=UN;obtain⟨a3,c3,⟨rfl,_,_,_,_⟩,_⟩:=hP0;have UN:=UN.later (Kp.alloc w (.cells #[.int .i64 b.ac,.int .i64 b.places,.slice a2 b.parts.length c2,.slice a3 b.apart.length c3,.slice a4 b.aa.length c4] 84));by_cases hqp:q<p
 .have hC:=dG _ _ _ q p UN
  have hI:(q,p)∈b.apart↔Apart b.apart p q:=by
   have:=vP h p q;rwa [show min p q=q by omega,show max p q=p by omega]at this
  have zjG:¬p<q:=by omega
  go_enter ZF100,Tryz.ntmps100
  go_wp2_with(go_at_call 122;refine hC.mono ?_;rintro e w1 ⟨⟨r,rfl,hr⟩,bi⟩;cases r)
  .go_ret;exact cI.mk (Tr.no λha=>hr.f (hI.2 ha)) (Below.step (Below.refl _ _) (zAC _) bi)
  .go_ret;exact cI.mk (Tr.yes (hI.1 hr.t)) (Below.step (Below.refl _ _) (zAC _) bi)
 .have hI:(p,q)∈b.apart↔Apart b.apart p q:=by
   have:=vP h p q;rwa [show min p q=p by omega,show max p q=q by omega]at this
  by_cases hpq:p<q
  .have hC:=dG _ _ _ p q UN;go_enter ZF100,Tryz.ntmps100
   go_wp2_with(go_at_call 122;refine hC.mono ?_;rintro e w1 ⟨⟨r,rfl,hr⟩,bi⟩;cases r)
   .go_ret;exact cI.mk (Tr.no λha=>hr.f (hI.2 ha)) (Below.step (Below.refl _ _) (zAC _) bi)
   .go_ret;exact cI.mk (Tr.yes (hI.1 hr.t)) (Below.step (Below.refl _ _) (zAC _) bi)
  .obtain rfl:p=q:=by omega
   have hC:=dG _ _ _ p p UN;go_enter ZF100,Tryz.ntmps100
   go_wp2_with(go_at_call 122;refine hC.mono ?_;rintro e w1 ⟨⟨r,rfl,hr⟩,bi⟩;cases r)
   .go_ret;exact cI.mk (Tr.no λha=>hr.f (hI.2 ha)) (Below.step (Below.refl _ _) (zAC _) bi)
   .go_ret;exact cI.mk (Tr.yes (hI.1 hr.t)) (Below.step (Below.refl _ _) (zAC _) bi)
theorem pS.S9 {w w1:World} {v0 v1 v2 v3 v4:Value} {t:Nat} (h:Below (w.heap.size+1) (w.alloc (.cells #[v0,v1,v2,v3,v4] t)) w1):pS w1 w.heap.size v0 v1 v2 v3 v4:=
 ⟨boxed h 0,boxed h 1,boxed h 2,boxed h 3,boxed h 4⟩
theorem Kq (w:World) (g n c:Nat) (a:Option Addr) (k:Int) (hn:1<=n/\n<=5) (hg:w.cell? ⟨g,2,none⟩=some (.slice a n c)):
 Calls ZP 99 #[.int .i64 k,.pointer (some ⟨g,0,none⟩)] w (dg w λr=>Tr r (¬(0<=k/\k<=(n:Int)-1))):=by
 have jJ:wrap64 ((n:Int)-1)=n-1:=by unfold wrap64;omega
 go_enter ZF99,Tryz.ntmps99
 go_wp2_with(go_at_call 92;refine(iU _ _ _ _).mono ?_;rintro e w' ⟨r,rfl,hr,rfl⟩;cases r)
 .go_ret;exact dg.mk (Tr.yes hr.f)
 .go_ret;exact dg.mk (Tr.no λh=>h hr.t)
theorem Av (w:World) (v:Value) (l:List Int) (g n c:Nat) (a:Option Addr) (h:am w v l) (hn:1<=n/\n<=5) (hg:w.cell? ⟨g,2,none⟩=some (.slice a n c)):
 Calls ZP 121 #[v,.func (.func 99) #[] #[.pointer (some ⟨g,0,none⟩)]] w (λe w'=>∃r,e=.returned (.int .i64 r)/\(0<=r↔¬lg l n l.length)/\w'=w):=by
 obtain⟨a1,c1,h1,h2⟩:=h;have H:Hid (bA w v l.length a1 c1/\_):=⟨h1,h2⟩
 have HG:=hid hg;obtain⟨rfl,l1,m1,n1,r1⟩:=h1;unfold maxLen at m1;clear h2 n1 r1 hg;go_enter ZF121,Tryz.ntmps121
 go_wp2
 go_loop [8,5] (λi j=>∃k:Nat,k<=l.length/\Hid (lg l n k)/\i=.int .i64 k) (λi _=>l.length-(intOf i).toNat)
 case atStart=>exact⟨0,zAR _,lg.zero _ _,rfl⟩
 case round=>
  obtain⟨k,pg,hN,rfl⟩:=hrel;by_cases az:k<l.length
  .obtain⟨⟨blk,off,sp⟩,y,rfl,hy,y0⟩:=H.o.1.elem H.o.2 az;obtain rfl:sp=none:=y0.1;have g0:=y0.2;simp only at g0;have HY:=hid hy;have ue:=hid az;have j0:(k:Int)<(l.length:Int):=by omega
   clear y0 hy
   go_wp2_with
    (go_at_call 99
     refine(Kq _ _ _ _ _ _ hn HG.o).mono ?_;rintro e w' ⟨r,rfl,hr,rfl⟩;cases r)
   .have HI:Hid (0<=y/\y<=(n:Int)-1):=Classical.not_not.1 hr.f;clear hr;go_round
    case rel=>exact⟨k+1,by omega,hN.o.succ HY.o HI.o,by go_num⟩
    case measure=>simp[intOf];omega
   .have HI:Hid (¬(0<=y/\y<=(n:Int)-1)):=hr.t;clear hr;go_ret;exact⟨_,rfl,⟨λ_ h=>HI.o (h k y ue.o HY.o),λ_=>Int.natCast_nonneg _⟩,rfl⟩
  .have ek:k=l.length:=by omega
   subst ek;go_wp2
   go_ret;exact⟨-1,rfl,⟨λh=>absurd h (by decide),λh=>absurd hN.o h⟩,rfl⟩
theorem Aw (w:World) (v:Value) (l:List Int) (g n c:Nat) (a:Option Addr) (h:am w v l) (hn:1<=n/\n<=5) (hg:w.cell? ⟨g,2,none⟩=some (.slice a n c)):
 Calls ZP 98 #[v,.func (.func 99) #[] #[.pointer (some ⟨g,0,none⟩)]] w (dg w λr=>Tr r (¬lg l n l.length)):=by
 go_enter ZF98,Tryz.ntmps98
 go_wp2_with
  (go_at_call 121
   refine(Av _ _ _ _ _ _ _ h hn hg).mono ?_;rintro e w1 ⟨r,rfl,hr,rfl⟩;have HR:=hid hr;clear hr)
 go_ret;refine dg.mk ?_;unfold Tr;simp only[zBZ];exact HR.o
theorem vQ (w:World) (v vl:Value) (b:ap) (l:List Int) (hb:ar w v b) (hl:am w vl l) (hp:1<=b.parts.length/\b.parts.length<=5) (N9:fy b):
 Calls ZP 66 #[v,vl] w (aY w λs=>s=bZ b l):=by
 have HB:=hid hb;have HI:=hid hl;have Z5:Hid (fy b):=N9;obtain⟨v2,v3,v4,rfl,⟨a2,c2,h2,f2⟩,⟨a3,c3,⟨rfl,_,_,_,_⟩,_⟩,⟨a4,c4,⟨rfl,_,_,_,_⟩,_⟩⟩:=hb;obtain⟨al,cl,Gt,fl⟩:=hl;have H2:Hid (bA w v2 b.parts.length a2 c2/\_):=⟨h2,f2⟩
 have HL:Hid (bA w vl l.length al cl/\_):=⟨Gt,fl⟩
 obtain⟨rfl,l2,m2,n2,r2⟩:=h2;obtain⟨rfl,ll,ml,nl,rl⟩:=Gt;unfold maxLen at m2 ml;clear r2 f2 n2 rl fl nl N9;by_cases hlen:(l.length:Int)=b.places
 case neg=>
  have tg:=hid hlen;go_enter ZF66,Tryz.ntmps66
  go_wp2
  go_ret;exact aY.mk (r:=2) (kB tg.o) ((Below.refl _ _).alloc (zAC _) _)
 case pos=>
 have bE:((l.length:Int)!=b.places)=false:=by simp[hlen]
 have tg:=hid hlen
 have HO:=Aw (w.alloc (.cells #[.int .i64 b.ac,.int .i64 b.places,.slice a2 b.parts.length c2,.slice a3 b.apart.length c3,.slice a4 b.aa.length c4] 84)) _ l w.heap.size b.parts.length c2 a2
  (HI.o.later (Kp.alloc w _)) hp (boxed (Below.refl _ _) 2)
 clear hlen;go_enter ZF66,Tryz.ntmps66
 go_wp2_with
  (go_at_call 98
   refine HO.mono ?_;rintro e w' ⟨r,rfl,hr,rfl⟩;cases r)
 rotate_left
 .have HR:=hr.t;go_ret;exact aY.mk (r:=6) (lT tg.o HR) ((Below.refl _ _).alloc (zAC _) _)
 have Xy:Hid (lg l b.parts.length l.length):=Classical.not_not.1 hr.f;clear HO hr;go_loopw [20,5,6] (λi u v w1=>∃k:Nat,k<=l.length/\i=.int .i64 k/\Hid (kR b l k)/\Hid (Below (w.heap.size+1) (w.alloc (.cells #[.int .i64 b.ac,.int .i64 b.places,.slice a2 b.parts.length c2,.slice a3 b.apart.length c3,.slice a4 b.aa.length c4] 84)) w1)) (λi _ _ _=>l.length-(intOf i).toNat)
 case atStart=>exact⟨0,zAR _,rfl,kR.zero _ _,Below.refl _ _⟩
 case round=>
  obtain⟨k,hk,rfl,hF,hB⟩:=hrel;have gg:=pS.S9 hB.o;by_cases az:k<l.length
  .obtain⟨⟨blk,off,sp⟩,x,rfl,hx,x0⟩:=HL.o.1.elem HL.o.2 az;obtain rfl:sp=none:=x0.1;obtain⟨xn,rfl⟩:=Int.eq_ofNat_of_zero_le (Xy.o k x az hx).1;have hxr:=(Xy.o k xn az hx).2;have HH:xn<b.parts.length:=by omega
   obtain⟨⟨pb,po,ps⟩,P,rfl,hP,_,_,_,_,_,vf,p5,L6⟩:=H2.o.1.elem H2.o.2 HH;obtain rfl:ps=none:=p5.1;have hf:=L6;obtain⟨af,cf,⟨rfl,_,_,_,_⟩,_⟩:=L6;have HX:=hid hx;have ue:=hid az;have HPX:Hid (b.parts[(xn:Int).toNat]?=some P):=by rw[Int.toNat_natCast];exact hP
   have G0:=λX:aj wr=>X.cell gg.c0;have G1:=λX:aj wr=>X.cell gg.c1;have G2:=λX:aj wr=>X.cell gg.c2;have G3:=λX:aj wr=>X.cell gg.c3;have G4:=λX:aj wr=>X.cell gg.c4;have y0:=(x0.later (Kp.boxed hB.o)).2;have Y5:=λX:aj wr=>X.cell (p5.later (Kp.boxed hB.o)).2;simp only[<-zBE]at y0 Y5;have j0:(k:Int)<(l.length:Int):=by omega
   have hx2:(xn:Int)<(b.parts.length:Int):=by omega
   have hz:Hid (w.heap.size+1<=wr.heap.size):=by have:=hB.o.size;simp at this;exact(by omega:w.heap.size+1<=wr.heap.size)
   clear hx hP p5 gg;by_cases nC:(k:Int)∈P.fits
   .have rq:∀X:aj wr,Calls ZP 84 #[.slice af P.fits.length cf,.int .i64 k] X.1 (λe iu=>e=.returned (.bool true)/\∃Y:aj wr,iu=Y.1):=λX=>
     (kD _ _ _ k ((hf.later (Kp.boxed hB.o)).later X.kp)).mono λe w' ⟨r,h1,h2,h3⟩=>⟨by rw[h1,h2.2 nC],X.same h3⟩
    have Z6:=hid nC;clear nC;by_cases qT:0<k
    .obtain⟨b',z,yX,P6,z0⟩:=HL.o.1.elem HL.o.2 (show k-1<l.length by omega);cases yX;have Z0:=λX:aj wr=>X.cell (z0.later (Kp.boxed hB.o)).2;simp only at Z0;have HZ:Hid (l[k-1]?=some z):=P6;have Xz:Hid (0<k):=qT;have pg:wrap64 ((k:Int)-1)=((k-1:Nat):Int):=by unfold wrap64;omega
     have iR:(0:Int)<(k:Int):=by omega
     have lN:((k-1:Nat):Int)<(l.length:Int):=by omega
     clear z0 P6 x0;by_cases rr:Apart b.apart z xn
     .have HAP:=hid rr
      have nD:∀X:aj wr,Calls ZP 100 #[.agg #[.int .i64 b.ac,.int .i64 b.places,.slice (some ⟨pb,po,none⟩) b.parts.length c2,.slice a3 b.apart.length c3,.slice a4 b.aa.length c4],.int .i64 z,.int .i64 xn] X.1 (λe iu=>e=.returned (.bool true)/\∃Y:aj wr,iu=Y.1):=λX=>
       (nG _ _ _ _ _ ((HB.o.later (Kp.boxed hB.o)).later X.kp) Z5.o).mono λe w' ⟨⟨r,h1,h2⟩,h3⟩=>⟨by cases r with
         |true=>exact h1
         |false=>exact absurd rr h2.f,X.on h3⟩
      clear rr;go_wp2
      refine ao (by kernel_rfl) (by kernel_rfl) ?_;repeat(go_big_quiet_step (first|(go_at_call 84;exact rq _)|(go_at_call 100;exact nD _)))
      refine wpQuiet_nil ?_;rintro _ ⟨X,rfl⟩;go_wp2
      go_ret;exact aY.mk (r:=3) (fT tg.o Xy.o λh=>(h k _ ue.o HX.o).Ug Xz.o z HZ.o HAP.o) (Below.boxed (hB.o.trans (X.2.mono hz.o)))
     .have HAP:=hid rr
      have nD:∀X:aj wr,Calls ZP 100 #[.agg #[.int .i64 b.ac,.int .i64 b.places,.slice (some ⟨pb,po,none⟩) b.parts.length c2,.slice a3 b.apart.length c3,.slice a4 b.aa.length c4],.int .i64 z,.int .i64 xn] X.1 (λe iu=>e=.returned (.bool false)/\∃Y:aj wr,iu=Y.1):=λX=>
       (nG _ _ _ _ _ ((HB.o.later (Kp.boxed hB.o)).later X.kp) Z5.o).mono λe w' ⟨⟨r,h1,h2⟩,h3⟩=>⟨by cases r with
         |false=>exact h1
         |true=>exact absurd h2.t rr,X.on h3⟩
      clear rr;go_wp2
      refine ao (by kernel_rfl) (by kernel_rfl) ?_;repeat(go_big_quiet_step (first|(go_at_call 84;exact rq _)|(go_at_call 100;exact nD _)))
      refine wpQuiet_nil ?_;rintro _ ⟨X,rfl⟩;go_wp2
      go_round
      case rel=>exact⟨k+1,by omega,by go_num,hF.o.succ HX.o ⟨⟨P,HPX.o,Z6.o⟩,λ_ y hy=>by rw[HZ.o]at hy;cases hy;exact HAP.o⟩,hB.o.trans (X.2.mono hz.o)⟩
      case measure=>simp[intOf];omega
    .have iR:¬(0:Int)<(k:Int):=by omega
     have Xz:Hid (¬0<k):=qT;clear x0;go_wp2
     refine ao (by kernel_rfl) (by kernel_rfl) ?_;repeat(go_big_quiet_step (first|(go_at_call 84;exact rq _)))
     refine wpQuiet_nil ?_;rintro _ ⟨X,rfl⟩;go_wp2
     go_round
     case rel=>exact⟨k+1,by omega,by go_num,hF.o.succ HX.o ⟨⟨P,HPX.o,Z6.o⟩,λh=>absurd h Xz.o⟩,hB.o.trans (X.2.mono hz.o)⟩
     case measure=>simp[intOf];omega
   .have rq:∀X:aj wr,Calls ZP 84 #[.slice af P.fits.length cf,.int .i64 k] X.1 (λe iu=>e=.returned (.bool false)/\∃Y:aj wr,iu=Y.1):=λX=>
     (kD _ _ _ k ((hf.later (Kp.boxed hB.o)).later X.kp)).mono λe w' ⟨r,h1,h2,h3⟩=>⟨by cases r with
       |false=>exact h1
       |true=>exact absurd h2.t nC,X.same h3⟩
    have Z6:=hid nC;clear nC x0;go_wp2
    refine ao (by kernel_rfl) (by kernel_rfl) ?_;repeat(go_big_quiet_step (first|(go_at_call 84;exact rq _)))
    refine wpQuiet_nil ?_;rintro _ ⟨X,rfl⟩;go_wp2
    go_ret
    exact aY.mk (r:=3) (fT tg.o Xy.o λh=>by
     obtain⟨P',UK,hm⟩:=(h k _ ue.o HX.o).fits;rw[HPX.o]at UK;cases UK;exact Z6.o hm) (Below.boxed (hB.o.trans (X.2.mono hz.o)))
  .clear gg;have ek:k=l.length:=by omega
   subst ek;go_wp2
   go_ret;exact aY.mk (r:=0) (lU ⟨tg.o,Xy.o,hF.o⟩) (Below.boxed hB.o)
theorem Ay (w:World) (v:Value) (b:ap) (hb:ar w v b) (hp:1<=b.parts.length/\b.parts.length<=5) (N9:fy b):Calls ZP 158 #[v] w (aY w λs=>s=dy b):=by
 have HB:=hid hb;have Z5:Hid (fy b):=N9;obtain⟨v2,v3,v4,rfl,⟨a2,c2,⟨rfl,_,_,_,_⟩,_⟩,⟨a3,c3,⟨rfl,_,_,_,_⟩,_⟩,⟨a4,c4,h4,f4⟩⟩:=hb;have H4:Hid (bA w v4 b.aa.length a4 c4/\_):=⟨h4,f4⟩
 obtain⟨rfl,l4,m4,n4,r4⟩:=h4;unfold maxLen at m4;clear r4 f4 n4 N9;by_cases GL:(4:Int)<(b.aa.length:Int)
 .go_enter ZF158,Tryz.ntmps158
  go_wp2
  go_ret;exact aY.mk (r:=2) (by unfold dy;rw[zAH (by omega)]) ((Below.refl _ _).alloc (zAC _) _)
 have HTS:Hid (dy b=scan (dF b) b.aa.length):=Au (by omega);go_enter ZF158,Tryz.ntmps158
 go_wp2
 go_loopw [15,4] (λi u w1=>∃k:Nat,k<=b.aa.length/\i=.int .i64 k/\Hid (scan (dF b) k=0)/\Hid (Below (w.heap.size+1) (w.alloc (.cells #[.int .i64 b.ac,.int .i64 b.places,.slice a2 b.parts.length c2,.slice a3 b.apart.length c3,.slice a4 b.aa.length c4] 84)) w1)) (λi _ _=>b.aa.length-(intOf i).toNat)
 case atStart=>exact⟨0,zAR _,rfl,rfl,Below.refl _ _⟩
 case round=>
  obtain⟨k,hk,rfl,hN,hB⟩:=hrel;obtain⟨s0,s1,s2,s3,s4⟩:=pS.S9 hB.o;by_cases az:k<b.aa.length
  .obtain⟨⟨blk,off,sp⟩,t,rfl,hx,⟨vf,x0,hf⟩,x1,x2⟩:=H4.o.1.elem H4.o.2 az;obtain rfl:sp=none:=x0.1;have Ei:=hf;obtain⟨af,cf,⟨rfl,_,_,_,_⟩,_⟩:=hf;have HX:=hid hx;have ue:=hid az;have jr:w.heap.size+1<=wr.heap.size:=by have:=hB.o.size;simp at this;omega
   have hz:=hid jr;have s0':∀o,(wr.alloc o).cell? ⟨w.heap.size,0,none⟩=some (.int .i64 b.ac):=λo=>(dW (by show w.heap.size<_;omega) o).trans s0;have s1':∀o,(wr.alloc o).cell? ⟨w.heap.size,1,none⟩=some (.int .i64 b.places):=λo=>(dW (by show w.heap.size<_;omega) o).trans s1;have s2':∀o,(wr.alloc o).cell? ⟨w.heap.size,2,none⟩=some (.slice a2 b.parts.length c2):=λo=>(dW (by show w.heap.size<_;omega) o).trans s2;have s3':∀o,(wr.alloc o).cell? ⟨w.heap.size,3,none⟩=some (.slice a3 b.apart.length c3):=λo=>(dW (by show w.heap.size<_;omega) o).trans s3;have s4':∀o,(wr.alloc o).cell? ⟨w.heap.size,4,none⟩=some (.slice (some ⟨blk,off,none⟩) b.aa.length c4):=λo=>(dW (by show w.heap.size<_;omega) o).trans s4;have y0:=(x0.later (Kp.boxed hB.o)).2;have y1:=(x1.later (Kp.boxed hB.o)).2;have y2:=(x2.later (Kp.boxed hB.o)).2;simp only[<-zBE]at y0 y1 y2;have j0:(k:Int)<(b.aa.length:Int):=by omega
   have hC:=vQ (wr.alloc (.cells #[.slice af t.parts.length cf,.int .i64 t.lo,.int .i64 t.hi] 65)) _ _ _ _ ((HB.o.later (Kp.boxed hB.o)).later (Kp.alloc wr _)) ((Ei.later (Kp.boxed hB.o)).later (Kp.alloc wr _)) hp Z5.o;obtain⟨mb,S4⟩:=ex1 (bZ b t.parts);have HMB:=hid S4;rw[S4]at hC;clear Ei x0 x1 x2 hx S4;by_cases BO:mb=0
   .subst BO;have HMO:Hid (cr b t.parts):=dx.1 HMB.o
    go_wp2_with(first
     |(go_at_call 66
       refine hC.mono ?_;rintro e w1 ⟨⟨r,rfl,rfl⟩,bi⟩;have B1:Hid (Below (w.heap.size+1) _ w1):=hB.o.step jr bi;have p1:=fm bi 1;have p2:=fm bi 2;simp only[zCC,zBM,zBC]at p1 p2)
     |(go_at_call 77;refine(kv _ _ _ _ _ (by omega) _).mono ?_;rintro e w' ⟨r,rfl,hr,rfl⟩;cases r))
    .have HR:Hid (¬(0<=t.lo/\t.lo<=t.hi/\t.hi<=99)):=λh=>hr.f ⟨h.1,h.2.1,h.2.2,by omega⟩;go_ret;exact aY.mk (r:=1) (HTS.o.trans (cg hN.o (N5 HX.o HMO.o HR.o) (by decide) ue.o)).symm (Below.boxed (Below.alloc B1.o (by have:=B1.o.size;simpa using this) _))
    .have P9:Hid (oO b t):=⟨HMO.o,hr.t.1,hr.t.2.1,hr.t.2.2.1⟩
     clear hr;go_round
     case rel=>exact⟨k+1,by omega,by go_num,my hN.o (EZ HX.o P9.o),(Below.alloc B1.o (by have:=B1.o.size;simpa using this) _:Below _ _ _)⟩
     case measure=>simp[intOf];omega
   .have P8:Hid (mb≠0):=BO
    go_wp2_with
     (go_at_call 66
      refine hC.mono ?_;rintro e w1 ⟨⟨r,rfl,rfl⟩,bi⟩;have B1:Hid (Below (w.heap.size+1) _ w1):=hB.o.step jr bi)
    go_ret;exact aY.mk (HTS.o.trans (cg hN.o ((N6 HX.o (by rw[HMB.o];exact P8.o)).trans HMB.o) P8.o ue.o)).symm (Below.boxed B1.o)
  .have ek:k=b.aa.length:=by omega
   subst ek;go_wp2
   go_ret;exact aY.mk (r:=0) (HTS.o.trans hN.o).symm (Below.boxed hB.o)
structure iv (w:World):Prop where
 c0:w.cell? ⟨0,0,none⟩=some (.func (.func 155) #[] #[])
 c1:w.cell? ⟨0,1,none⟩=some (.func (.func 156) #[] #[])
 c2:w.cell? ⟨0,2,none⟩=some (.func (.func 157) #[] #[])
 c3:w.cell? ⟨0,3,none⟩=some (.func (.func 158) #[] #[])
theorem iv.on {w:World} (h:iv w) (X:aj w):iv X.1:=⟨X.cell h.c0,X.cell h.c1,X.cell h.c2,X.cell h.c3⟩
theorem iv.later {w w':World} (h:iv w) (k:Below w.heap.size w w'):iv w':=h.on ⟨w',k⟩
section
variable (w:World)
theorem zda:(Instr.index 136 (.agg #[.func (.func 155) #[] #[],.func (.func 156) #[] #[],.func (.func 157) #[] #[],.func (.func 158) #[] #[]]) (.int .i64 0)).run ZP w=.ok (.func (.func 155) #[] #[]) w:=by
 have u:ZP.underlying 136=some (.array 4 96):=by rw[Tz.under];exact Tryz.underlying136
 have a3:=Tryz.isAgg96;have z3:=Tryz.sizeOf96;simp[Instr.index,run_underlying u,asIntOf,part,go_sem,a3,z3]
theorem zdb:(Instr.index 136 (.agg #[.func (.func 155) #[] #[],.func (.func 156) #[] #[],.func (.func 157) #[] #[],.func (.func 158) #[] #[]]) (.int .i64 1)).run ZP w=.ok (.func (.func 156) #[] #[]) w:=by
 have u:ZP.underlying 136=some (.array 4 96):=by rw[Tz.under];exact Tryz.underlying136
 have a3:=Tryz.isAgg96;have z3:=Tryz.sizeOf96;simp[Instr.index,run_underlying u,asIntOf,part,go_sem,a3,z3]
theorem zdc:(Instr.index 136 (.agg #[.func (.func 155) #[] #[],.func (.func 156) #[] #[],.func (.func 157) #[] #[],.func (.func 158) #[] #[]]) (.int .i64 2)).run ZP w=.ok (.func (.func 157) #[] #[]) w:=by
 have u:ZP.underlying 136=some (.array 4 96):=by rw[Tz.under];exact Tryz.underlying136
 have a3:=Tryz.isAgg96;have z3:=Tryz.sizeOf96;simp[Instr.index,run_underlying u,asIntOf,part,go_sem,a3,z3]
theorem zdd:(Instr.index 136 (.agg #[.func (.func 155) #[] #[],.func (.func 156) #[] #[],.func (.func 157) #[] #[],.func (.func 158) #[] #[]]) (.int .i64 3)).run ZP w=.ok (.func (.func 158) #[] #[]) w:=by
 have u:ZP.underlying 136=some (.array 4 96):=by rw[Tz.under];exact Tryz.underlying136
 have a3:=Tryz.isAgg96;have z3:=Tryz.sizeOf96;simp[Instr.index,run_underlying u,asIntOf,part,go_sem,a3,z3]
end
section
variable {b:ap}
theorem Dq (h:bR b≠0):cJ b=bR b:=by
 have h2:¬((1<=b.ac/\b.ac<=99)/\1<=b.places/\b.places<=4):=λk=>h (dH.2 k);rw[jD h2];unfold cJ;rw[zAH h2]
theorem Dr (h0:bR b=0) (h:bI b.places b.parts≠0):cJ b=bI b.places b.parts:=by
 unfold cJ;rw[zAI (dH.1 h0),zAH h]
theorem Ds (h0:bR b=0) (h1:bI b.places b.parts=0) (h:ci b.parts.length b.apart≠0):cJ b=ci b.parts.length b.apart:=by
 unfold cJ;rw[zAI (dH.1 h0),zAI h1,zAH h]
theorem qI (h0:bR b=0) (h1:bI b.places b.parts=0) (h2:ci b.parts.length b.apart=0):cJ b=dy b:=by
 unfold cJ;rw[zAI (dH.1 h0),zAI h1,zAI h2]
end
def XA (b:ap) (k:Int):Prop:=k=0\/(k=1/\bR b=0)\/(k=2/\bR b=0/\bI b.places b.parts=0)\/(k=3/\bR b=0/\bI b.places b.parts=0/\ci b.parts.length b.apart=0)\/(k=4/\cJ b=0)
theorem qJ (w:World) (v:Value) (b:ap) (hb:ar w v b) (hs:fS b) (hc:iv w):Calls ZP 44 #[v] w (aY w λs=>s=cJ b):=by
 have HB:=hid hb;have HS:Hid (fS b):=hs;obtain⟨v2,v3,v4,rfl,⟨a2,c2,⟨rfl,_,_,_,_⟩,_⟩,⟨a3,c3,⟨rfl,_,_,_,_⟩,_⟩,⟨a4,c4,⟨rfl,_,_,_,_⟩,_⟩⟩:=hb;obtain⟨k0,k1,k2,k3⟩:=hc.later ((Below.refl _ _).alloc (zAC _) (.cells #[.int .i64 b.ac,.int .i64 b.places,.slice a2 b.parts.length c2,.slice a3 b.apart.length c3,.slice a4 b.aa.length c4] 26));clear hs hc;go_enter ZF44,Tryz.ntmps44
 go_wp2
 go_loopw [7,4,5] (λi u v w1=>∃k:Int,Hid (XA b k)/\i=.int .i64 k/\Hid (Below (w.heap.size+1) (w.alloc (.cells #[.int .i64 b.ac,.int .i64 b.places,.slice a2 b.parts.length c2,.slice a3 b.apart.length c3,.slice a4 b.aa.length c4] 26)) w1)) (λi _ _ _=>4-(intOf i).toNat)
 case atStart=>exact⟨0,(.inl rfl:_\/_),rfl,Below.refl _ _⟩
 case round=>
  obtain⟨k,hk,rfl,hB⟩:=hrel;clear k0 k1 k2 k3;obtain⟨s0,s1,s2,s3,s4⟩:=pS.S9 hB.o;have bi:=HB.o.later (Kp.boxed hB.o);have hs:=hB.o.size;simp at hs;rcases hk.o with rfl|⟨rfl,ho⟩|⟨rfl,ho,hp⟩|⟨rfl,ho,hp,hq⟩|⟨rfl,hz⟩
  .have ix:=zda wr;clear hk;go_wp2_with(go_at_call 155;refine(Dn _ _ _ bi).mono ?_;rintro e w1 ⟨⟨r,rfl,hr⟩,fJ⟩;have HR:Hid (r=bR b):=hr;clear hr;by_cases h0:r=0)
   .go_round
    case rel=>exact⟨1,(.inr (.inl ⟨rfl,by rw[<-HR.o];exact h0⟩):XA b 1),rfl,hB.o.trans (fJ.mono hs)⟩
    case measure=>simp[intOf]
   .go_ret;exact aY.mk (HR.o.trans (Dq (by rw[<-HR.o];exact h0)).symm) (Below.boxed (hB.o.trans (fJ.mono hs)))
  .have ix:=zdb wr;have HO:=hid ho;have wI:=(dH.1 ho).2;clear hk ho;go_wp2_with(go_at_call 156;refine(Do _ _ _ bi HS.o wI).mono ?_;rintro e w1 ⟨⟨r,rfl,hr⟩,fJ⟩;have HR:Hid (r=bI b.places b.parts):=hr;clear hr;by_cases h0:r=0)
   .go_round
    case rel=>exact⟨2,(.inr (.inr (.inl ⟨rfl,HO.o,by rw[<-HR.o];exact h0⟩)):XA b 2),rfl,hB.o.trans (fJ.mono hs)⟩
    case measure=>simp[intOf]
   .go_ret;exact aY.mk (HR.o.trans (Dr HO.o (by rw[<-HR.o];exact h0)).symm) (Below.boxed (hB.o.trans (fJ.mono hs)))
  .have ix:=zdc wr;have HO:Hid (bR b=0/\bI b.places b.parts=0):=⟨ho,hp⟩
   have E4:=(kC.1 hp).many;clear hk ho hp;go_wp2_with(go_at_call 157;refine(Dp _ _ _ bi E4).mono ?_;rintro e w1 ⟨⟨r,rfl,hr⟩,fJ⟩;have HR:Hid (r=ci b.parts.length b.apart):=hr;clear hr;by_cases h0:r=0)
   .go_round
    case rel=>exact⟨3,(.inr (.inr (.inr (.inl ⟨rfl,HO.o.1,HO.o.2,by rw[<-HR.o];exact h0⟩))):XA b 3),rfl,hB.o.trans (fJ.mono hs)⟩
    case measure=>simp[intOf]
   .go_ret;exact aY.mk (HR.o.trans (Ds HO.o.1 HO.o.2 (by rw[<-HR.o];exact h0)).symm) (Below.boxed (hB.o.trans (fJ.mono hs)))
  .have ix:=zdd wr;have HO:Hid (bR b=0/\bI b.places b.parts=0/\ci b.parts.length b.apart=0):=⟨ho,hp,hq⟩
   have E4:=(kC.1 hp).many;have N9:=nE.1 hq;clear hk ho hp hq;go_wp2_with(go_at_call 158;refine(Ay _ _ _ bi E4 N9).mono ?_;rintro e w1 ⟨⟨r,rfl,hr⟩,fJ⟩;have HR:Hid (r=dy b):=hr;clear hr;by_cases h0:r=0)
   .go_round
    case rel=>exact⟨4,(.inr (.inr (.inr (.inr ⟨rfl,(qI HO.o.1 HO.o.2.1 HO.o.2.2).trans (by rw[<-HR.o];exact h0)⟩))):XA b 4),rfl,hB.o.trans (fJ.mono hs)⟩
    case measure=>simp[intOf]
   .go_ret;exact aY.mk (HR.o.trans (qI HO.o.1 HO.o.2.1 HO.o.2.2).symm) (Below.boxed (hB.o.trans (fJ.mono hs)))
  .have HZ:=hid hz;clear hk hz;go_wp2
   go_ret;exact aY.mk (r:=0) HZ.o.symm (Below.boxed hB.o)
theorem Kt (w:World) (v vl:Value) (b:ap) (l:List Int) (hb:ar w v b) (hl:am w vl l) (hp:1<=b.parts.length/\b.parts.length<=5) (N9:fy b) (it:cr b l):
 Calls ZP 66 #[v,vl] w (aY w λs=>s=0):=
 (vQ w v vl b l hb hl hp N9).mono λ_ _ ⟨⟨r,h1,h2⟩,h3⟩=>⟨⟨r,h1,h2.trans (dx.2 it)⟩,h3⟩
theorem Az {b:ap} (h:Valid b):fS b:=λj x hj hx=>by
 have:=(h.parts.all j x hj hx).1.name.2.1;omega
theorem iV (w:World) (v:Value) (b:ap) (hb:ar w v b) (hv:Valid b) (hc:iv w):Calls ZP 44 #[v] w (aY w λs=>s=0):=
 (qJ w v b hb (Az hv) hc).mono λ_ _ ⟨⟨r,h1,h2⟩,h3⟩=>⟨⟨r,h1,h2.trans (pU.2 hv)⟩,h3⟩
end Go.Proofs.Cz
