/- A part. Conditions: none. -/
import Derived.Test.YtddlcmejelobdaaGreatDoorT24
import Derived.Laws.IdiomStrings
set_option linter.all false
set_option maxHeartbeats 8000000
set_option maxRecDepth 100000
namespace Go.Proofs.Cz
open Go.RowKit
theorem Cq (w:World) (s:ByteArray):∃cap w',(convert 9 214 (.string s)).run ZP w=.ok (.slice (some ⟨w.heap.size,0,none⟩) s.size cap) w'/\Below w.heap.size w w'/\∀j (hj:j<s.size),w'.cell? ⟨w.heap.size,j,none⟩=some (.int .u8 s[j].toNat):=by
 have u9:ZP.underlying 9=some .string:=by rw[Tz.under];exact Tryz.underlying9
 have u77:ZP.underlying 214=some (.slice 5):=by rw[Tz.under];exact Tryz.underlying214
 have u5:ZP.underlying 5=some (.int .u8):=by rw[Tz.under];exact Tryz.underlying5
 refine⟨_,_,run_bytes_of_string w 9 214 5 s u9 u77 u5,?_,?_⟩
 .exact Below.alloc (Below.drewN (Below.refl _ _) 1) (Nat.le_refl _) _
 .intro j hj;exact(World.cell?_alloc_mark _ _ _ _ _).trans (bytesRow_at s _ j hj)
end Go.Proofs.Cz
namespace Go.Proofs.Cz
open Go.RowKit
end Go.Proofs.Cz
namespace Go.RowKit
theorem Below.step {B:Nat} {a w w1:World} {o:Obj} (h:Below B a w) (hs:B<=w.heap.size) (k:Below (w.alloc o).heap.size (w.alloc o) w1):Below B a w1:=
 (Below.alloc h hs o).trans (k.mono (by simp;omega))
end Go.RowKit
namespace Go.Proofs.Cz
open Go.RowKit
variable {a:Option Addr} {cap k n:Nat} {w:World}
theorem eK {w1:World} {cs:Array Value} {t:Nat} (h:Below (w.alloc (.cells cs t)).heap.size (w.alloc (.cells cs t)) w1) (k:Nat):w1.cell? ⟨w.heap.size,k,none⟩=cs[k]?:=boxed h.ja k
theorem bS.take {v:Value} (h:bS w v n a cap) (hk:k<=n):bS w (.slice a k cap) k a cap:=
 ⟨rfl,Nat.le_trans hk h.le,h.MH,h.nil,h.row⟩
theorem bT.take {l:List Part} (h:bT w (.slice a n cap) l) (hk:k<=l.length):bT w (.slice a k cap) (l.take k):=by
 obtain⟨a',kv,h1,h2⟩:=h;obtain⟨rfl,-,rfl⟩:a=a'/\_/\cap=kv:=by simpa using h1.eq
 have hl:(l.take k).length=k:=by simp;omega
 refine⟨a,cap,by rw[hl];exact h1.take hk,fun b e j x hj=>h2 b e j x ?_⟩;have qN:j<k:=by have:=(List.getElem?_eq_some_iff.1 hj).1;omega
 rw[List.getElem?_take]at hj;simpa [qN]using hj
theorem ew.take {l:List (Int×Int)} (h:ew w (.slice a n cap) l) (hk:k<=l.length):ew w (.slice a k cap) (l.take k):=by
 obtain⟨a',kv,h1,h2⟩:=h;obtain⟨rfl,-,rfl⟩:a=a'/\_/\cap=kv:=by simpa using h1.eq
 have hl:(l.take k).length=k:=by simp;omega
 refine⟨a,cap,by rw[hl];exact h1.take hk,fun b e j x hj=>h2 b e j x ?_⟩;have qN:j<k:=by have:=(List.getElem?_eq_some_iff.1 hj).1;omega
 rw[List.getElem?_take]at hj;simpa [qN]using hj
end Go.Proofs.Cz
namespace Go.Proofs.Cz
open Go.RowKit
theorem wO (w:World) (s:ByteArray) (hs:s.size<=maxLen):Calls ZP 187 #[.string s] w (cy w fun r=>Tr r (jj s)):=by
 unfold maxLen at hs;obtain⟨cap,w1,uR,hb,hc⟩:=Cq w s;have HB:=hid hb;have HC:=hid hc;clear hb hc;go_enter ZF187,Tryz.ntmps187
 go_wp2
 go_loop [8,3,4] (fun i u v=>∃k:Nat,k<=s.size/\Hid (m6 s k)/\i=.int .i64 k) (fun i _ _=>s.size-(intOf i).toNat)
 case atStart=>exact⟨0,Nat.zero_le _,(fun j hj h=>absurd h (Nat.not_lt_zero j):m6 s 0),rfl⟩
 case round=>
  obtain⟨k,hk,hN,rfl⟩:=hrel;by_cases ar:k<s.size
  .have y0:=HC.o k ar;have mO:(k:Int)<(s.size:Int):=by omega
   by_cases hl:su (s[k].toNat)
   .have HL:=hid hl;obtain⟨a1,a2⟩:=hl;go_wp2
    go_round
    case rel=>exact⟨k+1,by omega,hN.o.succ ar (.inl HL.o),by go_num⟩
    case measure=>simp[intOf];omega
   .have HL:=hid hl;by_cases hd:0<k/\zv (s[k].toNat)
    .have HD:=hid hd;obtain⟨rh,a1,a2⟩:=hd;have od:(0:Int)<(k:Int):=by omega
     have a3:¬(97:Int)<=s[k].toNat:=by omega
     clear hl;go_wp2
     go_round
     case rel=>exact⟨k+1,by omega,hN.o.succ ar (.inr HD.o),by go_num⟩
     case measure=>simp[intOf];omega
    .have MO:Hid (¬jj s):=fun h=>by
      rcases h.2.2 k ar ar with h1|h1
      .exact hl h1
      .exact hd h1
     by_cases b1:(97:Int)<=s[k].toNat
     .have b2:¬(s[k].toNat:Int)<=122:=fun h=>hl ⟨b1,h⟩;by_cases rh:0<k
      .have od:(0:Int)<(k:Int):=by omega
       have b4:(48:Int)<=s[k].toNat:=by omega
       have b5:¬(s[k].toNat:Int)<=57:=by omega
       clear hl hd uR;go_wp2
       go_ret;exact cy.mk (r:=false) ⟨(fun h=>by cases h),fun h=>absurd h MO.o⟩ HB.o
      .have od:¬(0:Int)<(k:Int):=by omega
       clear hl hd uR;go_wp2
       go_ret;exact cy.mk (r:=false) ⟨(fun h=>by cases h),fun h=>absurd h MO.o⟩ HB.o
     .by_cases rh:0<k
      .have od:(0:Int)<(k:Int):=by omega
       by_cases b4:(48:Int)<=s[k].toNat
       .have b5:¬(s[k].toNat:Int)<=57:=fun h=>hd ⟨rh,b4,h⟩;clear hl hd uR;go_wp2
        go_ret;exact cy.mk (r:=false) ⟨(fun h=>by cases h),fun h=>absurd h MO.o⟩ HB.o
       .clear hl hd uR;go_wp2
        go_ret;exact cy.mk (r:=false) ⟨(fun h=>by cases h),fun h=>absurd h MO.o⟩ HB.o
      .have od:¬(0:Int)<(k:Int):=by omega
       clear hl hd uR;go_wp2
       go_ret;exact cy.mk (r:=false) ⟨(fun h=>by cases h),fun h=>absurd h MO.o⟩ HB.o
  .have ek:k=s.size:=by omega
   subst ek;clear uR;go_wp2_with(go_at_call 115;refine(iH _ _ _ _).mono ?_;rintro e w' ⟨r,rfl,hr,rfl⟩)
   go_ret;exact cy.mk (r:=r) ⟨fun h=>by have:=hr.1 h;exact⟨by omega,by omega,hN.o⟩,fun h=>hr.2 ⟨by have:=h.1;omega,by have:=h.2.1;omega⟩⟩ HB.o
theorem tT (w:World) (g:Nat) (n1 nm:ByteArray) (a b c d:Int) (vf:Value) (af:Option Addr) (lf cf:Nat) (GT:vf=.slice af lf cf) (hg:w.cell? ⟨g,0,none⟩=some (.string nm)):
 Calls ZP 189 #[.agg #[.string n1,.int .i64 a,.int .i64 b,.int .i64 c,.int .i64 d,vf],.pointer (some ⟨g,0,none⟩)] w (cy w fun r=>Tr r (n1=nm)):=by
 subst GT;have EJ:=(Kp.alloc w (.cells #[.string n1,.int .i64 a,.int .i64 b,.int .i64 c,.int .i64 d,.slice af lf cf] 37))
 have GS:(w.alloc (.cells #[.string n1,.int .i64 a,.int .i64 b,.int .i64 c,.int .i64 d,.slice af lf cf] 37)).cell? ⟨g,0,none⟩=some (.string nm):=
  (ah.cell ⟨_,(Below.refl _ _).alloc (Nat.le_refl _) _⟩ hg:_)
 clear EJ;by_cases e:n1=nm
 .subst e;have hd:(n1.toList==n1.toList)=true:=by simp
  go_enter ZF189,Tryz.ntmps189
  go_wp2
  go_ret;exact cy.mk (r:=true) (by unfold Tr;simp) ((Below.refl _ _).alloc (Nat.le_refl _) _)
 .have hd:(n1.toList==nm.toList)=false:=by
   cases hh:(n1.toList==nm.toList)with
   |false=>rfl
   |true=>exact absurd (DY hh) e
  have HE:Hid (n1≠nm):=e;clear e;go_enter ZF189,Tryz.ntmps189
  go_wp2
  go_ret;exact cy.mk (r:=false) ⟨(fun h=>by cases h),fun h=>absurd h HE.o⟩ ((Below.refl _ _).alloc (Nat.le_refl _) _)
theorem wP (w:World) (v:Value) (l:List Part) (g:Nat) (nm:ByteArray) (h:bT w v l) (hg:w.cell? ⟨g,0,none⟩=some (.string nm)):
 Calls ZP 190 #[v,.func (.func 189) #[] #[.pointer (some ⟨g,0,none⟩)]] w (aT w fun r=>r=-1/\fZ l nm l.length\/0<=r/\∃i y,i<l.length/\l[i]?=some y/\y.name=nm):=by
 obtain⟨a,c,h1,h2⟩:=h;have H:Hid (bS w v l.length a c/\_):=⟨h1,h2⟩
 have HG:=hid hg;obtain⟨rfl,l1,m1,n1,r1⟩:=h1;unfold maxLen at m1;clear h2 n1 r1 hg;go_enter ZF190,Tryz.ntmps190
 go_wp2
 go_loopw [8,5] (fun i j w1=>∃k:Nat,k<=l.length/\Hid (fZ l nm k)/\i=.int .i64 k/\Hid (Below w.heap.size w w1)) (fun i _ _=>l.length-(intOf i).toNat)
 case atStart=>exact⟨0,Nat.zero_le _,fZ.zero _ _,rfl,Below.refl _ _⟩
 case round=>
  obtain⟨k,hk,hN,rfl,hB⟩:=hrel;by_cases ar:k<l.length
  .obtain⟨⟨blk,off,sp⟩,x,rfl,hx,x0,x1,x2,x3,x4,vf,x5,x6⟩:=H.o.1.elem H.o.2 ar;obtain rfl:sp=none:=x0.1;obtain⟨af,cf,hf,_⟩:=x6;obtain⟨rfl,lf,mf,_,_⟩:=hf;have y0:=(x0.later (Kp.of hB.o)).2;have y1:=(x1.later (Kp.of hB.o)).2;have y2:=(x2.later (Kp.of hB.o)).2;have y3:=(x3.later (Kp.of hB.o)).2;have y4:=(x4.later (Kp.of hB.o)).2;have y5:=(x5.later (Kp.of hB.o)).2;simp only[<-Nat.add_assoc]at y0 y1 y2 y3 y4 y5;have mO:(k:Int)<(l.length:Int):=by omega
   have hgr:=ah.cell ⟨wr,hB.o⟩ HG.o;have HX:=hid hx;clear x0 x1 x2 x3 x4 x5 hx
   go_wp2_with
    (go_at_call 189
     refine(tT _ _ _ _ _ _ _ _ _ _ _ _ rfl hgr).mono ?_;rintro e w1 ⟨⟨r,rfl,hr⟩,bE⟩;cases r)
   .go_round
    case rel=>exact⟨k+1,by omega,hN.o.succ HX.o hr.f,by go_num,hB.o.trans (bE.mono hB.o.size)⟩
    case measure=>simp[intOf];omega
   .go_ret;exact aT.mk (r:=(k:Int)) (.inr ⟨by omega,k,x,ar,HX.o,hr.t⟩) (hB.o.trans (bE.mono hB.o.size))
  .have ek:k=l.length:=by omega
   subst ek;go_wp2
   go_ret;exact aT.mk (r:=-1) (.inl ⟨rfl,hN.o⟩) hB.o
theorem wQ (w:World) (v:Value) (l:List Part) (g:Nat) (nm:ByteArray) (h:bT w v l) (hg:w.cell? ⟨g,0,none⟩=some (.string nm)):
 Calls ZP 188 #[v,.func (.func 189) #[] #[.pointer (some ⟨g,0,none⟩)]] w (cy w fun r=>Tr r (∃i y,i<l.length/\l[i]?=some y/\y.name=nm)):=by
 go_enter ZF188,Tryz.ntmps188
 go_wp2_with
  (go_at_call 190
   refine(wP _ _ _ _ _ h hg).mono ?_;rintro e w1 ⟨⟨r,rfl,hr⟩,bE⟩;have HR:=hid hr;clear hr)
 go_ret;refine cy.mk ?_ bE;unfold Tr;rcases HR.o with⟨rfl,h⟩|⟨h0,h⟩
 .simp only[decide_eq_true_eq];exact⟨fun h1=>by omega,fun⟨i,y,hi,hy,e⟩=>absurd e (h i y hi hy)⟩
 .exact⟨fun _=>h,fun _=>by simp;omega⟩
theorem cW.eq {w:World} {P:Bool->Prop} {v:Value} {r:Bool} (h:P r) (e:v=.bool r):cW w P (.returned v) w:=by subst e;exact .mk h
theorem FW (w:World) (v:Value) (l:List Int) (x:Int) (h:aC w v l):Calls ZP 121 #[v,.int .i64 x] w (fun e w'=>∃r,e=.returned (.int .i64 r)/\(0<=r↔x∈l)/\w'=w):=by
 obtain⟨a,c,h1,h2⟩:=h;have H:Hid (bS w v l.length a c/\_):=⟨h1,h2⟩
 obtain⟨rfl,l1,m1,n1,r1⟩:=h1;unfold maxLen at m1;clear h2 n1 r1;go_enter ZF121,Tryz.ntmps121
 go_wp2
 go_loop [8,5] (fun i j=>∃k:Nat,k<=l.length/\Hid (iG l x k)/\i=.int .i64 k) (fun i _=>l.length-(intOf i).toNat)
 case atStart=>exact⟨0,Nat.zero_le _,iG.zero l x,rfl⟩
 case round=>
  obtain⟨k,hk,hN,rfl⟩:=hrel;by_cases ar:k<l.length
  .obtain⟨⟨blk,off,sp⟩,y,rfl,hy,y0⟩:=H.o.1.elem H.o.2 ar;obtain rfl:sp=none:=y0.1;have g0:=y0.2;simp only at g0;have HY:=hid hy;have mO:(k:Int)<(l.length:Int):=by omega
   clear y0 hy;by_cases e:x=y
   .subst e;go_wp2
    go_ret;exact⟨k,rfl,⟨fun _=>List.mem_of_getElem? HY.o,fun _=>by omega⟩,rfl⟩
   .have e':Hid (y≠x):=fun h=>e h.symm;go_wp2
    go_round
    case rel=>exact⟨k+1,by omega,hN.o.succ HY.o e'.out,by go_num⟩
    case measure=>simp[intOf];omega
  .have HN:Hid (x∉l):=(by have e:k=l.length:=by omega
                          subst e;exact hN.o.all)
   go_wp2
   go_ret;exact⟨-1,rfl,⟨fun h=>by omega,fun h=>absurd h HN.o⟩,rfl⟩
theorem j7 (w:World) (v:Value) (l:List Int) (x:Int) (h:aC w v l):Calls ZP 76 #[v,.int .i64 x] w (cW w fun r=>Tr r (x∈l)):=by
 go_enter ZF76,Tryz.ntmps76
 go_wp2_with
  (go_at_call 121
   refine(FW _ _ _ x h).mono ?_;rintro e w1 ⟨r,rfl,hr,rfl⟩;by_cases h0:0<=r)
 .have hx:Hid (x∈l):=hr.1 h0;go_ret;exact cW.eq (r:=true) (Tr.yes hx.o) (by simp[hx.o])
 .have hx:Hid (¬x∈l):=fun h=>by have:=hr.2 h;omega
  go_ret;exact cW.eq (r:=false) (Tr.no hx.o) (by simp[hx.o])
theorem tU (w:World) (v:Value) (l:List (Int×Int)) (p q:Int) (h:ew w v l):
 Calls ZP 158 #[v,.agg #[.int .i64 p,.int .i64 q]] w (aT w fun r=>0<=r↔(p,q)∈l):=by
 obtain⟨a,c,h1,h2⟩:=h;have H:Hid (bS w v l.length a c/\_):=⟨h1,h2⟩
 obtain⟨rfl,l1,m1,n1,r1⟩:=h1;unfold maxLen at m1;clear h2 n1 r1;go_enter ZF158,Tryz.ntmps158
 go_wp2
 go_loopw [8,5] (fun i j w1=>∃k:Nat,k<=l.length/\Hid (f7 l (p,q) k)/\i=.int .i64 k/\∃n,w1=(w.alloc (.cells #[.int .i64 p,.int .i64 q] 53)).drewN n) (fun i _ _=>l.length-(intOf i).toNat)
 case atStart=>exact⟨0,Nat.zero_le _,f7.zero l _,rfl,0,rfl⟩
 case round=>
  obtain⟨k,hk,hN,rfl,n0,rfl⟩:=hrel;by_cases ar:k<l.length
  .obtain⟨⟨blk,off,sp⟩,⟨ya,yb⟩,rfl,hy,y0,y1⟩:=H.o.1.elem H.o.2 ar;obtain rfl:sp=none:=y0.1;have g0:=(y0.later (Kp.alloc w (.cells #[.int .i64 p,.int .i64 q] 53))).2;have g1:=(y1.later (Kp.alloc w (.cells #[.int .i64 p,.int .i64 q] 53))).2;simp only[<-Nat.add_assoc]at g0 g1;have HY:=hid hy;have mO:(k:Int)<(l.length:Int):=by omega
   clear y0 y1 hy;by_cases e1:p=ya
   .subst e1;by_cases e2:q=yb
    .subst e2;go_wp2
     go_quiet (fail)
     go_wp2
     go_ret;exact aT.mk (r:=k) ⟨fun _=>List.mem_of_getElem? HY.o,fun _=>by omega⟩ (Below.drewN (Below.drewN (Below.alloc (Below.refl _ _) (Nat.le_refl _) _) _) _)
    .have bC:Hid ((p,yb)≠(p,q)):=(fun h=>e2 (by cases h;rfl):(p,yb)≠(p,q))
     go_wp2
     go_quiet (fail)
     go_wp2
     go_round
     case rel=>exact⟨k+1,by omega,hN.o.succ HY.o bC.o,by go_num,_,rfl⟩
     case measure=>simp[intOf];omega
   .have bC:Hid ((ya,yb)≠(p,q)):=(fun h=>e1 (by cases h;rfl):(ya,yb)≠(p,q))
    go_wp2
    go_quiet (fail)
    go_wp2
    go_round
    case rel=>exact⟨k+1,by omega,hN.o.succ HY.o bC.o,by go_num,_,rfl⟩
    case measure=>simp[intOf];omega
  .have HN:Hid ((p,q)∉l):=(by
    have e:k=l.length:=by omega
    subst e;intro hm;obtain⟨j,hj,qN⟩:=List.getElem_of_mem hm;exact hN.o j _ hj (List.getElem?_eq_getElem hj) qN)
   go_wp2
   go_ret;exact aT.mk (r:=-1) ⟨fun h=>by omega,fun h=>absurd h HN.o⟩ (Below.drewN (Below.alloc (Below.refl _ _) (Nat.le_refl _) _) _)
theorem dr (w:World) (v:Value) (l:List (Int×Int)) (p q:Int) (h:ew w v l):
 Calls ZP 137 #[v,.agg #[.int .i64 p,.int .i64 q]] w (cy w fun r=>Tr r ((p,q)∈l)):=by
 go_enter ZF137,Tryz.ntmps137
 have h':=h.later (Kp.alloc w (.cells #[.int .i64 p,.int .i64 q] 53))
 go_wp2_with
  (go_at_call 158
   refine(tU _ _ _ p q h').mono ?_;rintro e w1 ⟨⟨r,rfl,hr⟩,bE⟩;by_cases h0:0<=r)
 .have hx:Hid ((p,q)∈l):=hr.1 h0;go_ret;exact cy.eq (r:=true) (Tr.yes hx.o) (Below.step (Below.refl _ _) (Nat.le_refl _) bE) (by simp[hx.o])
 .have hx:Hid (¬(p,q)∈l):=fun h=>by have:=hr.2 h;omega
  go_ret;exact cy.eq (r:=false) (Tr.no hx.o) (Below.step (Below.refl _ _) (Nat.le_refl _) bE) (by simp[hx.o])
open Classical in
noncomputable def bN (b:ai):Int:=if(1<=b.ao/\b.ao<=99)/\1<=b.places/\b.places<=4 then 0 else 1
theorem dt {b:ai}:bN b=0↔(1<=b.ao/\b.ao<=99)/\1<=b.places/\b.places<=4:=by
 unfold bN;split
 .rename_i h;exact⟨fun _=>h,fun _=>rfl⟩
 .rename_i h;exact⟨fun h1=>absurd h1 (by decide),fun h2=>absurd h2 h⟩
theorem jl {b:ai} (h:¬((1<=b.ao/\b.ao<=99)/\1<=b.places/\b.places<=4)):bN b=1:=by unfold bN;rw[if_neg h]
theorem Cr (w:World) (v:Value) (b:ai) (hb:au w v b):Calls ZP 183 #[v] w (aT w fun r=>r=bN b):=by
 obtain⟨v2,v3,v4,rfl,⟨a2,c2,⟨rfl,_,_,_,_⟩,_⟩,⟨a3,c3,⟨rfl,_,_,_,_⟩,_⟩,⟨a4,c4,⟨rfl,_,_,_,_⟩,_⟩⟩:=hb;go_enter ZF183,Tryz.ntmps183
 go_wp2_with(first
  |(go_at_call 115;(with_reducible refine(iH _ b.ao _ _).mono ?_);rintro e w' ⟨r,rfl,rH,rfl⟩;cases r)
  |(go_at_call 115;(with_reducible refine(iH _ b.places _ _).mono ?_);rintro e w' ⟨r,rfl,qw,rfl⟩;cases r))
 .go_ret;exact aT.mk (r:=1) (jl fun h=>rH.f h.1).symm ((Below.refl _ _).alloc (Nat.le_refl _) _)
 .go_ret;exact aT.mk (r:=1) (jl fun h=>qw.f h.2).symm ((Below.refl _ _).alloc (Nat.le_refl _) _)
 .go_ret;exact aT.mk (r:=0) (dt.2 ⟨rH.t,qw.t⟩).symm ((Below.refl _ _).alloc (Nat.le_refl _) _)
theorem Cs (w:World) (v:Value) (b:ai) (hb:au w v b) (hs:fL b) (t9:1<=b.places/\b.places<=4):Calls ZP 184 #[v] w (aT w fun r=>r=bD b.places b.parts):=by
 obtain⟨v2,v3,v4,rfl,Js,h3,h4⟩:=hb;have Vy:=hid Js;have HS:Hid (fL b):=hs;obtain⟨a2,c2,h2,f2⟩:=Js;have H2:Hid (bS w v2 b.parts.length a2 c2/\_):=⟨h2,f2⟩
 obtain⟨rfl,l2,m2,n2,r2⟩:=h2;obtain⟨a3,c3,⟨rfl,_,_,_,_⟩,_⟩:=h3;obtain⟨a4,c4,⟨rfl,_,_,_,_⟩,_⟩:=h4;unfold maxLen at m2;clear r2 f2 n2 hs;go_enter ZF184,Tryz.ntmps184
 go_wp2_with(go_at_call 115;refine(iH _ _ _ _).mono ?_;rintro e w' ⟨r,rfl,hr,rfl⟩;cases r)
 .go_ret;exact aT.mk (r:=2) (by unfold bD;rw[if_neg (fun h=>hr.f (by omega))]) ((Below.refl _ _).alloc (Nat.le_refl _) _)
 have hm:=hr.t;have D9:Hid (bD b.places b.parts=scan (cN b.places b.parts) b.parts.length):=Cn (by omega);clear hr;go_loopw [17,3,4] (fun i u v w1=>∃k:Nat,k<=b.parts.length/\i=.int .i64 k/\Hid (scan (cN b.places b.parts) k=0)/\Hid (Below (w.heap.size+1) (w.alloc (.cells #[.int .i64 b.ao,.int .i64 b.places,.slice a2 b.parts.length c2,.slice a3 b.apart.length c3,.slice a4 b.ab.length c4] 78)) w1)) (fun i _ _ _=>b.parts.length-(intOf i).toNat)
 case atStart=>exact⟨0,Nat.zero_le _,rfl,rfl,Below.refl _ _⟩
 case round=>
  obtain⟨k,hk,rfl,hN,hB⟩:=hrel;have g1:=boxed hB.o 1;have g2:=boxed hB.o 2;simp only[List.getElem?_toArray,List.getElem?_cons_succ,List.getElem?_cons_zero]at g1 g2;by_cases ar:k<b.parts.length
  .obtain⟨⟨blk,off,sp⟩,x,rfl,hx,x0,x1,x2,x3,x4,vf,x5,x6⟩:=H2.o.1.elem H2.o.2 ar;obtain rfl:sp=none:=x0.1;have x7:=x6.later (Kp.boxed hB.o);obtain⟨af,cf,hf,_⟩:=x6;obtain⟨rfl,lf,mf,_,_⟩:=hf;unfold maxLen at mf;have HX:Hid (b.parts[k]?=some x/\aC wr (.slice af x.fits.length cf) x.fits):=⟨hx,x7⟩
   have bQ:x.name.size<=maxLen:=by have:=HS.o k x ar hx;unfold maxLen;omega
   have tp:=hid ar;have y0:=(x0.later (Kp.boxed hB.o)).2;have y1:=(x1.later (Kp.boxed hB.o)).2;have y2:=(x2.later (Kp.boxed hB.o)).2;have y3:=(x3.later (Kp.boxed hB.o)).2;have y4:=(x4.later (Kp.boxed hB.o)).2;have y5:=(x5.later (Kp.boxed hB.o)).2;simp only[<-Nat.add_assoc]at y0 y1 y2 y3 y4 y5;have mU:w.heap.size+1<=wr.heap.size:=by have:=hB.o.size;simp at this;omega
   have pS:blk<w.heap.size:=x0.lt;have mO:(k:Int)<(b.parts.length:Int):=by omega
   clear x0 x1 x2 x3 x4 x5 x7 hx
   go_wp2_with(first
    |(go_at_call 187
      refine(wO _ _ bQ).mono ?_;rintro e w1 ⟨⟨r,rfl,Rq⟩,bE⟩;have B1:Hid (Below (w.heap.size+1) _ w1):=hB.o.step mU bE;have p0:=eK bE 0;have p1:=eK bE 1;have p2:=eK bE 2;have p3:=eK bE 3;have p4:=eK bE 4;have p5:=eK bE 5;have q1:=boxed B1.o 1;have q2:=boxed B1.o 2;simp only[List.getElem?_toArray,List.getElem?_cons_succ,List.getElem?_cons_zero]at p0 p1 p2 p3 p4 p5 q1 q2;cases r)
    |(go_at_call 188
      refine(wQ _ _ (b.parts.take k) _ x.name ((Vy.o.later (Kp.boxed B1.o)).take hk) p0).mono ?_;rintro e w2 ⟨⟨r,rfl,OE⟩,gz⟩;have B2:Hid (Below (w.heap.size+1) _ w2):=B1.o.trans (gz.mono (by have:=B1.o.size;simpa using this));have s1:=ah.cell ⟨w2,gz⟩ p1;have s2:=ah.cell ⟨w2,gz⟩ p2;have s3:=ah.cell ⟨w2,gz⟩ p3;have s4:=ah.cell ⟨w2,gz⟩ p4;have s5:=ah.cell ⟨w2,gz⟩ p5;have t1:=ah.cell ⟨w2,gz⟩ q1;simp only at s1 s2 s3 s4 s5 t1;have s5a:∀o,(w2.alloc o).cell? ⟨wr.heap.size,5,none⟩=_:=fun o=>ah.cell ⟨w2.alloc o,(Below.refl _ _).alloc (Nat.le_refl _) o⟩ s5;have t1a:∀o,(w2.alloc o).cell? ⟨w.heap.size,1,none⟩=_:=fun o=>ah.cell ⟨w2.alloc o,(Below.refl _ _).alloc (Nat.le_refl _) o⟩ t1;have HF:Hid (∀o,aC (w2.alloc o) (.slice af x.fits.length cf) x.fits):=fun o=>(HX.o.2.later (Kp.trans (Kp.alloc wr _) (Kp.of bE) (by simp))).later (Kp.trans (Kp.of gz) (Kp.alloc w2 o) gz.size)
      have FX:Hid (r=true\/fZ b.parts x.name k):=(by
       cases r with
       |true=>exact .inl rfl
       |false=>exact .inr fun i y hi hy e=>OE.f ⟨i,y,by rw[List.length_take];omega,by rw[List.getElem?_take_of_lt hi];exact hy,e⟩)
      have HNY:Hid (r=false\/∃i y,i<k/\b.parts[i]?=some y/\y.name=x.name):=(by
       cases r with
       |false=>exact .inl rfl
       |true=>
        obtain⟨i,y,hi,hy,e⟩:=OE.t;have To:i<k:=by rw[List.length_take]at hi;omega
        exact .inr ⟨i,y,To,by rw[List.getElem?_take_of_lt To]at hy;exact hy,e⟩)
      clear p0 p1 p2 p3 p4 p5 q1 q2 OE;cases r)
    |(go_at_call 115;(with_reducible refine(iH _ x.cost _ _).mono ?_);rintro e w' ⟨r,rfl,hrc,rfl⟩;cases r)
    |(go_at_call 115;(with_reducible refine(iH _ x.bL _ _).mono ?_);rintro e w' ⟨r,rfl,Qx,rfl⟩;cases r)
    |(go_at_call 99;refine(ss _ _ _ _ _ (by omega) _).mono ?_;rintro e w' ⟨r,rfl,hrx,rfl⟩;cases r))
   .go_ret;exact aT.mk (r:=4) (D9.o.trans (bV hN.o (Rh HX.o.1 Rq.f) (by decide) tp.o)).symm (Below.boxed B1.o)
   .go_ret;exact aT.mk (r:=1) (D9.o.trans (bV hN.o (Cm HX.o.1 Rq.t (FX.o.resolve_left (by simp)) fun h=>hrc.f h.1) (by decide) tp.o)).symm (Below.boxed B2.o)
   .go_ret;exact aT.mk (r:=1) (D9.o.trans (bV hN.o (Cm HX.o.1 Rq.t (FX.o.resolve_left (by simp)) fun h=>Qx.f h.2.1) (by decide) tp.o)).symm (Below.boxed B2.o)
   .go_ret;exact aT.mk (r:=1) (D9.o.trans (bV hN.o (Cm HX.o.1 Rq.t (FX.o.resolve_left (by simp)) fun h=>hrx.f ⟨h.2.2.1.1,h.2.2.1.2.1,h.2.2.1.2.2,h.2.2.2⟩) (by decide) tp.o)).symm (Below.boxed (Below.alloc B2.o (by have:=B2.o.size;simpa using this) _))
   .have HPB:Hid (cN b.places b.parts k=scan (gF b.places x.fits) x.fits.length):=(by
     have h:=hrx.t;exact Jp HX.o.1 Rq.t (FX.o.resolve_left (by simp)) ⟨hrc.t,Qx.t,⟨h.1,h.2.1,h.2.2.1⟩,h.2.2.2⟩)
    have Vu:wrap64 (b.places-1)=b.places-1:=by unfold wrap64;omega
    have jp:Hid (Below w.heap.size w _):=Below.boxed (Below.alloc B2.o (by have:=B2.o.size;simpa using this) (.cells #[.int .i64 x.lo,.int .i64 x.hi] 34));clear Rq hrc Qx hrx bE gz;go_loop [51,5,6] (fun i u v=>∃m:Nat,m<=x.fits.length/\i=.int .i64 m/\Hid (scan (gF b.places x.fits) m=0)) (fun i _ _=>x.fits.length-(intOf i).toNat)
    case atStart=>exact⟨0,Nat.zero_le _,rfl,rfl⟩
    case round=>
     obtain⟨m,hm2,rfl,hM⟩:=hrel;by_cases gS:m<x.fits.length
     .obtain⟨a',kv,Aw,Vz⟩:=HF.o (.cells #[.int .i64 x.lo,.int .i64 x.hi] 34);have he:=Aw.eq;simp only[Value.slice.injEq]at he;obtain⟨rfl,-,rfl⟩:=he;obtain⟨⟨fb,fo,fs⟩,y,rfl,hy,y0⟩:=Aw.elem Vz gS;obtain rfl:fs=none:=y0.1;have z0:=y0.2;simp only at z0;have HY:=hid hy;have HMK:=hid gS;have Vt:(m:Int)<(x.fits.length:Int):=by omega
      by_cases uM:0<=y/\y<=b.places-1
      .have e3:(decide (0<=y)&&decide (y<=b.places-1))=true:=by simpa using uM
       have Jt:=hid uM;clear uM;by_cases EF:0<m
       .obtain⟨b',z,Jm,OJ,z1⟩:=Aw.elem Vz (show m-1<x.fits.length by omega);cases Jm;have z1:=z1.2;simp only at z1;have HZ:Hid (x.fits[m-1]?=some z):=OJ;have OL:Hid (0<m):=EF;have oL:wrap64 ((m:Int)-1)=((m-1:Nat):Int):=by unfold wrap64;omega
        have od:(0:Int)<(m:Int):=by omega
        have mT:((m-1:Nat):Int)<(x.fits.length:Int):=by omega
        clear OJ Aw Vz y0 hy;by_cases hzy:y<=z
        .have HZY:Hid (y<=z):=hzy;go_wp2_with(go_at_call 115;refine(cM _ _ _ _).mono ?_;rw[e3];rintro e w' ⟨rfl,rfl⟩)
         go_ret;exact aT.mk (r:=7) (D9.o.trans (bV hN.o (HPB.o.trans (bV hM.o (Vw HY.o Jt.o OL.o HZ.o HZY.o) (by decide) HMK.o)) (by decide) tp.o)).symm jp.o
        .have HZY:Hid (z<y):=Int.lt_of_not_ge hzy;go_wp2_with(go_at_call 115;refine(cM _ _ _ _).mono ?_;rw[e3];rintro e w' ⟨rfl,rfl⟩)
         go_round
         case rel=>exact⟨m+1,by omega,by go_num,lS hM.o (Jo HY.o Jt.o fun z' _ pS=>by rw[HZ.o]at pS;cases pS;exact HZY.o)⟩
         case measure=>simp[intOf];omega
       .have od:¬(0:Int)<(m:Int):=by omega
        have OL:Hid (¬0<m):=EF;clear Aw Vz y0 hy;go_wp2_with(go_at_call 115;refine(cM _ _ _ _).mono ?_;rw[e3];rintro e w' ⟨rfl,rfl⟩)
        go_round
        case rel=>exact⟨m+1,by omega,by go_num,lS hM.o (Jo HY.o Jt.o fun z' h _=>absurd h OL.o)⟩
        case measure=>simp[intOf];omega
      .have e3:(decide (0<=y)&&decide (y<=b.places-1))=false:=by
        cases hd:(decide (0<=y)&&decide (y<=b.places-1))with
        |false=>rfl
        |true=>exact absurd (by simpa using hd) uM
       have Jt:=hid uM;clear uM Aw Vz y0 hy;go_wp2_with(go_at_call 115;refine(cM _ _ _ _).mono ?_;rw[e3];rintro e w' ⟨rfl,rfl⟩)
       go_ret;exact aT.mk (r:=6) (D9.o.trans (bV hN.o (HPB.o.trans (bV hM.o (Vv HY.o Jt.o) (by decide) HMK.o)) (by decide) tp.o)).symm jp.o
     .have em:m=x.fits.length:=by omega
      subst em;have HK:Hid (cN b.places b.parts k=0):=HPB.o.trans hM.o;go_wp2
      go_round
      case rel=>exact⟨k+1,by omega,by go_num,lS hN.o HK.o,(Below.alloc B2.o (by have:=B2.o.size;simpa using this) _:Below _ _ _)⟩
      case measure=>simp[intOf];omega
   .obtain⟨i,y,hi,hy,Kw⟩:=HNY.o.resolve_left (by simp);go_ret;exact aT.mk (r:=5) (D9.o.trans (bV hN.o (Ri HX.o.1 Rq.t hi hy Kw) (by decide) tp.o)).symm (Below.boxed B2.o)
  .have ek:k=b.parts.length:=by omega
   subst ek;go_wp2
   go_ret;exact aT.mk (r:=0) (D9.o.trans hN.o).symm (Below.boxed hB.o)
theorem Ct (w:World) (v:Value) (b:ai) (hb:au w v b) (MP:1<=b.parts.length/\b.parts.length<=5):Calls ZP 185 #[v] w (aT w fun r=>r=bW b.parts.length b.apart):=by
 obtain⟨v2,v3,v4,rfl,h2,Js,h4⟩:=hb;have Vy:=hid Js;obtain⟨a3,c3,h3,f3⟩:=Js;have H3:Hid (bS w v3 b.apart.length a3 c3/\_):=⟨h3,f3⟩
 obtain⟨rfl,l3,m3,n3,r3⟩:=h3;obtain⟨a2,c2,⟨rfl,_,m2,_,_⟩,_⟩:=h2;obtain⟨a4,c4,⟨rfl,_,_,_,_⟩,_⟩:=h4;unfold maxLen at m3;clear r3 f3 n3 m2;have jK:wrap64 ((b.parts.length:Int)-1)=b.parts.length-1:=by unfold wrap64;omega
 by_cases VA:(5:Int)<(b.apart.length:Int)
 .go_enter ZF185,Tryz.ntmps185
  go_wp2
  go_ret;exact aT.mk (r:=2) (by unfold bW;rw[if_neg (by omega)]) ((Below.refl _ _).alloc (Nat.le_refl _) _)
 have D9:Hid (bW b.parts.length b.apart=scan (dp b.parts.length b.apart) b.apart.length):=Cp (by omega);go_enter ZF185,Tryz.ntmps185
 go_wp2
 go_loopw [14,3,4] (fun i u v w1=>∃k:Nat,k<=b.apart.length/\i=.int .i64 k/\Hid (scan (dp b.parts.length b.apart) k=0)/\Hid (Below (w.heap.size+1) (w.alloc (.cells #[.int .i64 b.ao,.int .i64 b.places,.slice a2 b.parts.length c2,.slice a3 b.apart.length c3,.slice a4 b.ab.length c4] 78)) w1)) (fun i _ _ _=>b.apart.length-(intOf i).toNat)
 case atStart=>exact⟨0,Nat.zero_le _,rfl,rfl,Below.refl _ _⟩
 case round=>
  obtain⟨k,hk,rfl,hN,hB⟩:=hrel;have g2:=boxed hB.o 2;have g3:=boxed hB.o 3;simp only[List.getElem?_toArray,List.getElem?_cons_succ,List.getElem?_cons_zero]at g2 g3;by_cases ar:k<b.apart.length
  .obtain⟨⟨blk,off,sp⟩,⟨xa,xb⟩,rfl,hx,x0,x1⟩:=H3.o.1.elem H3.o.2 ar;obtain rfl:sp=none:=x0.1;have HX:=hid hx;have tp:=hid ar;have y0:=(x0.later (Kp.boxed hB.o)).2;have y1:=(x1.later (Kp.boxed hB.o)).2;simp only[<-Nat.add_assoc]at y0 y1;have mU:w.heap.size+1<=wr.heap.size:=by have:=hB.o.size;simp at this;omega
   have pS:blk<w.heap.size:=x0.lt;have mO:(k:Int)<(b.apart.length:Int):=by omega
   have od:(k:Int)<=(c3:Int):=by omega
   clear x0 x1 hx;have HA:Hid (Below w.heap.size w (wr.alloc (.cells #[.int .i64 xa,.int .i64 xb] 53))):=Below.one (Below.boxed hB.o) (by omega) _ 0;have TV:∀o,(wr.alloc o).cell? ⟨w.heap.size,2,none⟩=some (.slice a2 b.parts.length c2):=fun o=>(ey (by show w.heap.size<_;omega) o).trans g2;by_cases h1:0<=xa/\xa<=(b.parts.length:Int)-1
   .have e1:(decide (0<=xa)&&decide (xa<=(b.parts.length:Int)-1))=true:=by simpa using h1
    have VB:=hid h1;clear h1;by_cases h2:0<=xb/\xb<=(b.parts.length:Int)-1
    .have e2:(decide (0<=xb)&&decide (xb<=(b.parts.length:Int)-1))=true:=by simpa using h2
     have VC:=hid h2;clear h2;by_cases h3:xb<xa
     .have HN3:Hid (¬xa<=xb):=Int.not_le.2 h3;go_wp2_with(go_at_call 115;refine(cM _ _ _ _).mono ?_;(first|rw[e1]|rw[e2]);rintro e w' ⟨rfl,rfl⟩)
      go_ret;exact aT.mk (r:=7) (D9.o.trans (bV hN.o (Ro HX.o ⟨VB.o,VC.o⟩ (fun(h:xa<=xb)=>by have:=HN3.o;omega)) (by decide) tp.o)).symm HA.o
     .have SW:Hid (pu b.parts.length (xa,xb)):=⟨VB.o,VC.o,Int.not_lt.1 h3⟩
      have G3:∀X:ah (wr.alloc (.cells #[.int .i64 xa,.int .i64 xb] 53)),X.1.cell? ⟨w.heap.size,3,none⟩=some (.slice (some ⟨blk,off,none⟩) b.apart.length c3):=fun X=>
       X.cell ((ey (by show w.heap.size<_;omega) _).trans g3)
      have T0:∀X:ah (wr.alloc (.cells #[.int .i64 xa,.int .i64 xb] 53)),X.1.cell? ⟨wr.heap.size,0,none⟩=some (.int .i64 xa):=fun X=>eK X.2 0;have T1:∀X:ah (wr.alloc (.cells #[.int .i64 xa,.int .i64 xb] 53)),X.1.cell? ⟨wr.heap.size,1,none⟩=some (.int .i64 xb):=fun X=>eK X.2 1;have hz:=hid mU;by_cases dY:(xa,xb)∈b.apart.take k
      .have HMM:Hid (∃i,i<k/\b.apart[i]?=some (xa,xb)):=by
        obtain⟨j,hj,qN⟩:=List.getElem_of_mem dY;rw[List.getElem_take]at qN;have YS:j<b.apart.length:=by simp at hj;omega
        exact⟨j,by simp at hj;omega,by rw[List.getElem?_eq_getElem YS,qN]⟩
       have m9:∀X:ah (wr.alloc (.cells #[.int .i64 xa,.int .i64 xb] 53)),Calls ZP 137 #[.slice (some ⟨blk,off,none⟩) k c3,.agg #[.int .i64 xa,.int .i64 xb]] X.1 (fun e jk=>e=.returned (.bool true)/\∃Y:ah (wr.alloc (.cells #[.int .i64 xa,.int .i64 xb] 53)),jk=Y.1):=fun X=>
        (dr _ _ _ _ _ (((Vy.o.later (Kp.boxed hB.o)).later (Kp.trans (Kp.alloc wr _) X.kp (by simp))).take hk)).mono fun e w' ⟨⟨r,h1,h2⟩,h3⟩=>⟨by cases r with
          |true=>exact h1
          |false=>exact absurd dY h2.f,X.on h3⟩
       clear dY;go_wp2_with(go_at_call 115;refine(cM _ _ _ _).mono ?_;(first|rw[e1]|rw[e2]);rintro e w' ⟨rfl,rfl⟩)
       refine am (by kernel_rfl) (by kernel_rfl) ?_;repeat(go_big_quiet_step (first|(go_at_call 137;exact m9 _)))
       refine wpQuiet_nil ?_;rintro _ ⟨X,rfl⟩;go_wp2
       go_ret;obtain⟨i,hi,hy⟩:=HMM.o;exact aT.mk (r:=5) (D9.o.trans (bV hN.o (Rp HX.o SW.o hi hy) (by decide) tp.o)).symm (Below.boxed (hB.o.step hz.o X.2))
      .have HNP:Hid (f7 b.apart (xa,xb) k):=fun i y hi hy e=>by
        subst e;have hil:=(List.getElem?_eq_some_iff.1 hy)
        exact dY (List.mem_iff_getElem?.2 ⟨i,by rw[List.getElem?_take_of_lt hi];exact hy⟩)
       have m9:∀X:ah (wr.alloc (.cells #[.int .i64 xa,.int .i64 xb] 53)),Calls ZP 137 #[.slice (some ⟨blk,off,none⟩) k c3,.agg #[.int .i64 xa,.int .i64 xb]] X.1 (fun e jk=>e=.returned (.bool false)/\∃Y:ah (wr.alloc (.cells #[.int .i64 xa,.int .i64 xb] 53)),jk=Y.1):=fun X=>
        (dr _ _ _ _ _ (((Vy.o.later (Kp.boxed hB.o)).later (Kp.trans (Kp.alloc wr _) X.kp (by simp))).take hk)).mono fun e w' ⟨⟨r,h1,h2⟩,h3⟩=>⟨by cases r with
          |false=>exact h1
          |true=>exact absurd h2.t dY,X.on h3⟩
       clear dY;go_wp2_with(go_at_call 115;refine(cM _ _ _ _).mono ?_;(first|rw[e1]|rw[e2]);rintro e w' ⟨rfl,rfl⟩)
       refine am (by kernel_rfl) (by kernel_rfl) ?_;repeat(go_big_quiet_step (first|(go_at_call 137;exact m9 _)))
       refine wpQuiet_nil ?_;rintro _ ⟨X,rfl⟩;go_wp2
       go_round
       case rel=>exact⟨k+1,by omega,by go_num,lS hN.o (Jr HX.o SW.o HNP.o),hB.o.step hz.o X.2⟩
       case measure=>simp[intOf];omega
    .have e2:(decide (0<=xb)&&decide (xb<=(b.parts.length:Int)-1))=false:=by
      cases hd:(decide (0<=xb)&&decide (xb<=(b.parts.length:Int)-1))with
      |false=>rfl
      |true=>exact absurd (by simpa using hd) h2
     have VC:=hid h2;clear h2;by_cases N7:xa=xb
     .exact absurd VB.o (by rw[N7];exact VC.o)
     .clear N7;go_wp2_with(go_at_call 115;refine(cM _ _ _ _).mono ?_;(first|rw[e1]|rw[e2]);rintro e w' ⟨rfl,rfl⟩)
      go_ret;exact aT.mk (r:=6) (D9.o.trans (bV hN.o (Jq HX.o fun h=>VC.o h.2) (by decide) tp.o)).symm HA.o
   .have e1:(decide (0<=xa)&&decide (xa<=(b.parts.length:Int)-1))=false:=by
     cases hd:(decide (0<=xa)&&decide (xa<=(b.parts.length:Int)-1))with
     |false=>rfl
     |true=>exact absurd (by simpa using hd) h1
    have VB:=hid h1;clear h1;go_wp2_with(go_at_call 115;refine(cM _ _ _ _).mono ?_;rw[e1];rintro e w' ⟨rfl,rfl⟩)
    go_ret;exact aT.mk (r:=6) (D9.o.trans (bV hN.o (Jq HX.o fun h=>VB.o h.1) (by decide) tp.o)).symm HA.o
  .have ek:k=b.apart.length:=by omega
   subst ek;go_wp2
   go_ret;exact aT.mk (r:=0) (D9.o.trans hN.o).symm (Below.boxed hB.o)
theorem uS {b:ai} (h:eP b) (p q:Int):(min p q,max p q)∈b.apart↔Apart b.apart p q:=by
 constructor
 .intro hm;refine⟨_,hm,?_⟩;by_cases e:p<=q
  .left;simp only;omega
  .right;simp only;omega
 .rintro⟨⟨x,y⟩,hm,hx⟩;obtain⟨j,hj,qN⟩:=List.getElem_of_mem hm;have hle:=(h.all j _ hj (by rw[List.getElem?_eq_getElem hj,qN])).1.le
  have:(min p q,max p q)=(x,y):=by
   rcases hx with⟨rfl,rfl⟩|⟨rfl,rfl⟩<;>simp only at*<;>ext<;>simp only<;>omega
  rw[this];exact hm
theorem na (w:World) (v:Value) (b:ai) (p q:Int) (hb:au w v b) (h:eP b):
 Calls ZP 116 #[v,.int .i64 p,.int .i64 q] w (cy w fun r=>Tr r (Apart b.apart p q)):=by
 obtain⟨v2,v3,v4,rfl,h2,SX,h4⟩:=hb;obtain⟨a2,c2,⟨rfl,_,_,_,_⟩,_⟩:=h2;obtain⟨a4,c4,⟨rfl,_,_,_,_⟩,_⟩:=h4;have hP0:=SX;obtain⟨a3,c3,⟨rfl,_,_,_,_⟩,_⟩:=hP0;have SX:=SX.later (Kp.alloc w (.cells #[.int .i64 b.ao,.int .i64 b.places,.slice a2 b.parts.length c2,.slice a3 b.apart.length c3,.slice a4 b.ab.length c4] 78));by_cases hqp:q<p
 .have hC:=dr _ _ _ q p SX
  have hI:(q,p)∈b.apart↔Apart b.apart p q:=by
   have:=uS h p q;rwa [show min p q=q by omega,show max p q=p by omega]at this
  have zhC:¬p<q:=by omega
  go_enter ZF116,Tryz.ntmps116
  go_wp2_with(go_at_call 137;refine hC.mono ?_;rintro e w1 ⟨⟨r,rfl,hr⟩,bE⟩;cases r)
  .go_ret;exact cy.mk (Tr.no fun ha=>hr.f (hI.2 ha)) (Below.step (Below.refl _ _) (Nat.le_refl _) bE)
  .go_ret;exact cy.mk (Tr.yes (hI.1 hr.t)) (Below.step (Below.refl _ _) (Nat.le_refl _) bE)
 .have hI:(p,q)∈b.apart↔Apart b.apart p q:=by
   have:=uS h p q;rwa [show min p q=p by omega,show max p q=q by omega]at this
  by_cases hpq:p<q
  .have hC:=dr _ _ _ p q SX;go_enter ZF116,Tryz.ntmps116
   go_wp2_with(go_at_call 137;refine hC.mono ?_;rintro e w1 ⟨⟨r,rfl,hr⟩,bE⟩;cases r)
   .go_ret;exact cy.mk (Tr.no fun ha=>hr.f (hI.2 ha)) (Below.step (Below.refl _ _) (Nat.le_refl _) bE)
   .go_ret;exact cy.mk (Tr.yes (hI.1 hr.t)) (Below.step (Below.refl _ _) (Nat.le_refl _) bE)
  .obtain rfl:p=q:=by omega
   have hC:=dr _ _ _ p p SX;go_enter ZF116,Tryz.ntmps116
   go_wp2_with(go_at_call 137;refine hC.mono ?_;rintro e w1 ⟨⟨r,rfl,hr⟩,bE⟩;cases r)
   .go_ret;exact cy.mk (Tr.no fun ha=>hr.f (hI.2 ha)) (Below.step (Below.refl _ _) (Nat.le_refl _) bE)
   .go_ret;exact cy.mk (Tr.yes (hI.1 hr.t)) (Below.step (Below.refl _ _) (Nat.le_refl _) bE)
theorem pv.Rr {w w1:World} {v0 v1 v2 v3 v4:Value} {t:Nat} (h:Below (w.heap.size+1) (w.alloc (.cells #[v0,v1,v2,v3,v4] t)) w1):pv w1 w.heap.size v0 v1 v2 v3 v4:=
 ⟨boxed h 0,boxed h 1,boxed h 2,boxed h 3,boxed h 4⟩
theorem Ju (w:World) (g n c:Nat) (a:Option Addr) (k:Int) (hn:1<=n/\n<=5) (hg:w.cell? ⟨g,2,none⟩=some (.slice a n c)):
 Calls ZP 114 #[.int .i64 k,.pointer (some ⟨g,0,none⟩)] w (cW w fun r=>Tr r (¬(0<=k/\k<=(n:Int)-1))):=by
 have jK:wrap64 ((n:Int)-1)=n-1:=by unfold wrap64;omega
 go_enter ZF114,Tryz.ntmps114
 go_wp2_with(go_at_call 115;refine(iH _ _ _ _).mono ?_;rintro e w' ⟨r,rfl,hr,rfl⟩;cases r)
 .go_ret;exact cW.mk (Tr.yes hr.f)
 .go_ret;exact cW.mk (Tr.no fun h=>h hr.t)
theorem zA (w:World) (v:Value) (l:List Int) (g n c:Nat) (a:Option Addr) (h:aC w v l) (hn:1<=n/\n<=5) (hg:w.cell? ⟨g,2,none⟩=some (.slice a n c)):
 Calls ZP 136 #[v,.func (.func 114) #[] #[.pointer (some ⟨g,0,none⟩)]] w (fun e w'=>∃r,e=.returned (.int .i64 r)/\(0<=r↔¬kC l n l.length)/\w'=w):=by
 obtain⟨a1,c1,h1,h2⟩:=h;have H:Hid (bS w v l.length a1 c1/\_):=⟨h1,h2⟩
 have HG:=hid hg;obtain⟨rfl,l1,m1,n1,r1⟩:=h1;unfold maxLen at m1;clear h2 n1 r1 hg;go_enter ZF136,Tryz.ntmps136
 go_wp2
 go_loop [8,5] (fun i j=>∃k:Nat,k<=l.length/\Hid (kC l n k)/\i=.int .i64 k) (fun i _=>l.length-(intOf i).toNat)
 case atStart=>exact⟨0,Nat.zero_le _,kC.zero _ _,rfl⟩
 case round=>
  obtain⟨k,oL,hN,rfl⟩:=hrel;by_cases ar:k<l.length
  .obtain⟨⟨blk,off,sp⟩,y,rfl,hy,y0⟩:=H.o.1.elem H.o.2 ar;obtain rfl:sp=none:=y0.1;have g0:=y0.2;simp only at g0;have HY:=hid hy;have tp:=hid ar;have mO:(k:Int)<(l.length:Int):=by omega
   clear y0 hy
   go_wp2_with
    (go_at_call 114
     refine(Ju _ _ _ _ _ _ hn HG.o).mono ?_;rintro e w' ⟨r,rfl,hr,rfl⟩;cases r)
   .have HI:Hid (0<=y/\y<=(n:Int)-1):=Classical.not_not.1 hr.f;clear hr;go_round
    case rel=>exact⟨k+1,by omega,hN.o.succ HY.o HI.o,by go_num⟩
    case measure=>simp[intOf];omega
   .have HI:Hid (¬(0<=y/\y<=(n:Int)-1)):=hr.t;clear hr;go_ret;exact⟨_,rfl,⟨fun _ h=>HI.o (h k y tp.o HY.o),fun _=>Int.natCast_nonneg _⟩,rfl⟩
  .have ek:k=l.length:=by omega
   subst ek;go_wp2
   go_ret;exact⟨-1,rfl,⟨fun h=>absurd h (by decide),fun h=>absurd hN.o h⟩,rfl⟩
theorem zB (w:World) (v:Value) (l:List Int) (g n c:Nat) (a:Option Addr) (h:aC w v l) (hn:1<=n/\n<=5) (hg:w.cell? ⟨g,2,none⟩=some (.slice a n c)):
 Calls ZP 113 #[v,.func (.func 114) #[] #[.pointer (some ⟨g,0,none⟩)]] w (cW w fun r=>Tr r (¬kC l n l.length)):=by
 go_enter ZF113,Tryz.ntmps113
 go_wp2_with
  (go_at_call 136
   refine(zA _ _ _ _ _ _ _ h hn hg).mono ?_;rintro e w1 ⟨r,rfl,hr,rfl⟩;have HR:=hid hr;clear hr)
 go_ret;refine cW.mk ?_;unfold Tr;simp only[decide_eq_true_eq];exact HR.o
theorem px (w:World) (v vl:Value) (b:ai) (l:List Int) (hb:au w v b) (hl:aC w vl l) (hp:1<=b.parts.length/\b.parts.length<=5) (MQ:eP b):
 Calls ZP 60 #[v,vl] w (aT w fun s=>s=aJ b l):=by
 have HB:=hid hb;have HI:=hid hl;have XD:Hid (eP b):=MQ;obtain⟨v2,v3,v4,rfl,⟨a2,c2,h2,f2⟩,⟨a3,c3,⟨rfl,_,_,_,_⟩,_⟩,⟨a4,c4,⟨rfl,_,_,_,_⟩,_⟩⟩:=hb;obtain⟨al,cl,xZ,fl⟩:=hl;have H2:Hid (bS w v2 b.parts.length a2 c2/\_):=⟨h2,f2⟩
 have HL:Hid (bS w vl l.length al cl/\_):=⟨xZ,fl⟩
 obtain⟨rfl,l2,m2,n2,r2⟩:=h2;obtain⟨rfl,ll,ml,nl,rl⟩:=xZ;unfold maxLen at m2 ml;clear r2 f2 n2 rl fl nl MQ;by_cases hlen:(l.length:Int)=b.places
 case neg=>
  have sx:=hid hlen;go_enter ZF60,Tryz.ntmps60
  go_wp2
  go_ret;exact aT.mk (r:=2) (j0 sx.o) ((Below.refl _ _).alloc (Nat.le_refl _) _)
 case pos=>
 have bC:((l.length:Int)!=b.places)=false:=by simp[hlen]
 have sx:=hid hlen
 have HO:=zB (w.alloc (.cells #[.int .i64 b.ao,.int .i64 b.places,.slice a2 b.parts.length c2,.slice a3 b.apart.length c3,.slice a4 b.ab.length c4] 78)) _ l w.heap.size b.parts.length c2 a2
  (HI.o.later (Kp.alloc w _)) hp (boxed (Below.refl _ _) 2)
 clear hlen;go_enter ZF60,Tryz.ntmps60
 go_wp2_with
  (go_at_call 113
   refine HO.mono ?_;rintro e w' ⟨r,rfl,hr,rfl⟩;cases r)
 rotate_left
 .have HR:=hr.t;go_ret;exact aT.mk (r:=6) (ly sx.o HR) ((Below.refl _ _).alloc (Nat.le_refl _) _)
 have VD:Hid (kC l b.parts.length l.length):=Classical.not_not.1 hr.f;clear HO hr;go_loopw [20,5,6] (fun i u v w1=>∃k:Nat,k<=l.length/\i=.int .i64 k/\Hid (kr b l k)/\Hid (Below (w.heap.size+1) (w.alloc (.cells #[.int .i64 b.ao,.int .i64 b.places,.slice a2 b.parts.length c2,.slice a3 b.apart.length c3,.slice a4 b.ab.length c4] 78)) w1)) (fun i _ _ _=>l.length-(intOf i).toNat)
 case atStart=>exact⟨0,Nat.zero_le _,rfl,kr.zero _ _,Below.refl _ _⟩
 case round=>
  obtain⟨k,hk,rfl,hF,hB⟩:=hrel;have gg:=pv.Rr hB.o;by_cases ar:k<l.length
  .obtain⟨⟨blk,off,sp⟩,x,rfl,hx,x0⟩:=HL.o.1.elem HL.o.2 ar;obtain rfl:sp=none:=x0.1;obtain⟨xn,rfl⟩:=Int.eq_ofNat_of_zero_le (VD.o k x ar hx).1;have hxr:=(VD.o k xn ar hx).2;have GI:xn<b.parts.length:=by omega
   obtain⟨⟨pb,po,ps⟩,P,rfl,hP,_,_,_,_,_,vf,p5,GT⟩:=H2.o.1.elem H2.o.2 GI;obtain rfl:ps=none:=p5.1;have hf:=GT;obtain⟨af,cf,⟨rfl,_,_,_,_⟩,_⟩:=GT;have HX:=hid hx;have tp:=hid ar;have HPX:Hid (b.parts[(xn:Int).toNat]?=some P):=by rw[Int.toNat_natCast];exact hP
   have G0:=fun X:ah wr=>X.cell gg.c0;have G1:=fun X:ah wr=>X.cell gg.c1;have G2:=fun X:ah wr=>X.cell gg.c2;have G3:=fun X:ah wr=>X.cell gg.c3;have G4:=fun X:ah wr=>X.cell gg.c4;have y0:=(x0.later (Kp.boxed hB.o)).2;have Y5:=fun X:ah wr=>X.cell (p5.later (Kp.boxed hB.o)).2;simp only[<-Nat.add_assoc]at y0 Y5;have mO:(k:Int)<(l.length:Int):=by omega
   have hx2:(xn:Int)<(b.parts.length:Int):=by omega
   have hz:Hid (w.heap.size+1<=wr.heap.size):=by have:=hB.o.size;simp at this;exact(by omega:w.heap.size+1<=wr.heap.size)
   clear hx hP p5 gg;by_cases kN:(k:Int)∈P.fits
   .have qD:∀X:ah wr,Calls ZP 76 #[.slice af P.fits.length cf,.int .i64 k] X.1 (fun e jk=>e=.returned (.bool true)/\∃Y:ah wr,jk=Y.1):=fun X=>
     (j7 _ _ _ k ((hf.later (Kp.boxed hB.o)).later X.kp)).mono fun e w' ⟨r,h1,h2,h3⟩=>⟨by rw[h1,h2.2 kN],X.same h3⟩
    have XE:=hid kN;clear kN;by_cases rh:0<k
    .obtain⟨b',z,Jm,OJ,z0⟩:=HL.o.1.elem HL.o.2 (show k-1<l.length by omega);cases Jm;have Z0:=fun X:ah wr=>X.cell (z0.later (Kp.boxed hB.o)).2;simp only at Z0;have HZ:Hid (l[k-1]?=some z):=OJ;have HK0:Hid (0<k):=rh;have oL:wrap64 ((k:Int)-1)=((k-1:Nat):Int):=by unfold wrap64;omega
     have od:(0:Int)<(k:Int):=by omega
     have mT:((k-1:Nat):Int)<(l.length:Int):=by omega
     clear z0 OJ x0;by_cases qE:Apart b.apart z xn
     .have HAP:=hid qE
      have m7:∀X:ah wr,Calls ZP 116 #[.agg #[.int .i64 b.ao,.int .i64 b.places,.slice (some ⟨pb,po,none⟩) b.parts.length c2,.slice a3 b.apart.length c3,.slice a4 b.ab.length c4],.int .i64 z,.int .i64 xn] X.1 (fun e jk=>e=.returned (.bool true)/\∃Y:ah wr,jk=Y.1):=fun X=>
       (na _ _ _ _ _ ((HB.o.later (Kp.boxed hB.o)).later X.kp) XD.o).mono fun e w' ⟨⟨r,h1,h2⟩,h3⟩=>⟨by cases r with
         |true=>exact h1
         |false=>exact absurd qE h2.f,X.on h3⟩
      clear qE;go_wp2
      refine am (by kernel_rfl) (by kernel_rfl) ?_;repeat(go_big_quiet_step (first|(go_at_call 76;exact qD _)|(go_at_call 116;exact m7 _)))
      refine wpQuiet_nil ?_;rintro _ ⟨X,rfl⟩;go_wp2
      go_ret;exact aT.mk (r:=3) (fM sx.o VD.o fun h=>(h k _ tp.o HX.o).Tk HK0.o z HZ.o HAP.o) (Below.boxed (hB.o.trans (X.2.mono hz.o)))
     .have HAP:=hid qE
      have m7:∀X:ah wr,Calls ZP 116 #[.agg #[.int .i64 b.ao,.int .i64 b.places,.slice (some ⟨pb,po,none⟩) b.parts.length c2,.slice a3 b.apart.length c3,.slice a4 b.ab.length c4],.int .i64 z,.int .i64 xn] X.1 (fun e jk=>e=.returned (.bool false)/\∃Y:ah wr,jk=Y.1):=fun X=>
       (na _ _ _ _ _ ((HB.o.later (Kp.boxed hB.o)).later X.kp) XD.o).mono fun e w' ⟨⟨r,h1,h2⟩,h3⟩=>⟨by cases r with
         |false=>exact h1
         |true=>exact absurd h2.t qE,X.on h3⟩
      clear qE;go_wp2
      refine am (by kernel_rfl) (by kernel_rfl) ?_;repeat(go_big_quiet_step (first|(go_at_call 76;exact qD _)|(go_at_call 116;exact m7 _)))
      refine wpQuiet_nil ?_;rintro _ ⟨X,rfl⟩;go_wp2
      go_round
      case rel=>exact⟨k+1,by omega,by go_num,hF.o.succ HX.o ⟨⟨P,HPX.o,XE.o⟩,fun _ y hy=>by rw[HZ.o]at hy;cases hy;exact HAP.o⟩,hB.o.trans (X.2.mono hz.o)⟩
      case measure=>simp[intOf];omega
    .have od:¬(0:Int)<(k:Int):=by omega
     have HK0:Hid (¬0<k):=rh;clear x0;go_wp2
     refine am (by kernel_rfl) (by kernel_rfl) ?_;repeat(go_big_quiet_step (first|(go_at_call 76;exact qD _)))
     refine wpQuiet_nil ?_;rintro _ ⟨X,rfl⟩;go_wp2
     go_round
     case rel=>exact⟨k+1,by omega,by go_num,hF.o.succ HX.o ⟨⟨P,HPX.o,XE.o⟩,fun h=>absurd h HK0.o⟩,hB.o.trans (X.2.mono hz.o)⟩
     case measure=>simp[intOf];omega
   .have qD:∀X:ah wr,Calls ZP 76 #[.slice af P.fits.length cf,.int .i64 k] X.1 (fun e jk=>e=.returned (.bool false)/\∃Y:ah wr,jk=Y.1):=fun X=>
     (j7 _ _ _ k ((hf.later (Kp.boxed hB.o)).later X.kp)).mono fun e w' ⟨r,h1,h2,h3⟩=>⟨by cases r with
       |false=>exact h1
       |true=>exact absurd h2.t kN,X.same h3⟩
    have XE:=hid kN;clear kN x0;go_wp2
    refine am (by kernel_rfl) (by kernel_rfl) ?_;repeat(go_big_quiet_step (first|(go_at_call 76;exact qD _)))
    refine wpQuiet_nil ?_;rintro _ ⟨X,rfl⟩;go_wp2
    go_ret
    exact aT.mk (r:=3) (fM sx.o VD.o fun h=>by
     obtain⟨P',SU,hm⟩:=(h k _ tp.o HX.o).fits;rw[HPX.o]at SU;cases SU;exact XE.o hm) (Below.boxed (hB.o.trans (X.2.mono hz.o)))
  .clear gg;have ek:k=l.length:=by omega
   subst ek;go_wp2
   go_ret;exact aT.mk (r:=0) (lz ⟨sx.o,VD.o,hF.o⟩) (Below.boxed hB.o)
theorem zC (w:World) (v:Value) (b:ai) (hb:au w v b) (hp:1<=b.parts.length/\b.parts.length<=5) (MQ:eP b):Calls ZP 186 #[v] w (aT w fun s=>s=dh b):=by
 have HB:=hid hb;have XD:Hid (eP b):=MQ;obtain⟨v2,v3,v4,rfl,⟨a2,c2,⟨rfl,_,_,_,_⟩,_⟩,⟨a3,c3,⟨rfl,_,_,_,_⟩,_⟩,⟨a4,c4,h4,f4⟩⟩:=hb;have H4:Hid (bS w v4 b.ab.length a4 c4/\_):=⟨h4,f4⟩
 obtain⟨rfl,l4,m4,n4,r4⟩:=h4;unfold maxLen at m4;clear r4 f4 n4 MQ;by_cases VA:(4:Int)<(b.ab.length:Int)
 .go_enter ZF186,Tryz.ntmps186
  go_wp2
  go_ret;exact aT.mk (r:=2) (by unfold dh;rw[if_neg (by omega)]) ((Below.refl _ _).alloc (Nat.le_refl _) _)
 have HTS:Hid (dh b=scan (dq b) b.ab.length):=zz (by omega);go_enter ZF186,Tryz.ntmps186
 go_wp2
 go_loopw [15,4] (fun i u w1=>∃k:Nat,k<=b.ab.length/\i=.int .i64 k/\Hid (scan (dq b) k=0)/\Hid (Below (w.heap.size+1) (w.alloc (.cells #[.int .i64 b.ao,.int .i64 b.places,.slice a2 b.parts.length c2,.slice a3 b.apart.length c3,.slice a4 b.ab.length c4] 78)) w1)) (fun i _ _=>b.ab.length-(intOf i).toNat)
 case atStart=>exact⟨0,Nat.zero_le _,rfl,rfl,Below.refl _ _⟩
 case round=>
  obtain⟨k,hk,rfl,hN,hB⟩:=hrel;obtain⟨s0,s1,s2,s3,s4⟩:=pv.Rr hB.o;by_cases ar:k<b.ab.length
  .obtain⟨⟨blk,off,sp⟩,t,rfl,hx,⟨vf,x0,hf⟩,x1,x2⟩:=H4.o.1.elem H4.o.2 ar;obtain rfl:sp=none:=x0.1;have Dm:=hf;obtain⟨af,cf,⟨rfl,_,_,_,_⟩,_⟩:=hf;have HX:=hid hx;have tp:=hid ar;have mU:w.heap.size+1<=wr.heap.size:=by have:=hB.o.size;simp at this;omega
   have hz:=hid mU;have s0':∀o,(wr.alloc o).cell? ⟨w.heap.size,0,none⟩=some (.int .i64 b.ao):=fun o=>(ey (by show w.heap.size<_;omega) o).trans s0;have s1':∀o,(wr.alloc o).cell? ⟨w.heap.size,1,none⟩=some (.int .i64 b.places):=fun o=>(ey (by show w.heap.size<_;omega) o).trans s1;have s2':∀o,(wr.alloc o).cell? ⟨w.heap.size,2,none⟩=some (.slice a2 b.parts.length c2):=fun o=>(ey (by show w.heap.size<_;omega) o).trans s2;have s3':∀o,(wr.alloc o).cell? ⟨w.heap.size,3,none⟩=some (.slice a3 b.apart.length c3):=fun o=>(ey (by show w.heap.size<_;omega) o).trans s3;have s4':∀o,(wr.alloc o).cell? ⟨w.heap.size,4,none⟩=some (.slice (some ⟨blk,off,none⟩) b.ab.length c4):=fun o=>(ey (by show w.heap.size<_;omega) o).trans s4;have y0:=(x0.later (Kp.boxed hB.o)).2;have y1:=(x1.later (Kp.boxed hB.o)).2;have y2:=(x2.later (Kp.boxed hB.o)).2;simp only[<-Nat.add_assoc]at y0 y1 y2;have mO:(k:Int)<(b.ab.length:Int):=by omega
   have hC:=px (wr.alloc (.cells #[.slice af t.parts.length cf,.int .i64 t.lo,.int .i64 t.hi] 56)) _ _ _ _ ((HB.o.later (Kp.boxed hB.o)).later (Kp.alloc wr _)) ((Dm.later (Kp.boxed hB.o)).later (Kp.alloc wr _)) hp XD.o;obtain⟨mb,D0⟩:=ex1 (aJ b t.parts);have HMB:=hid D0;rw[D0]at hC;clear Dm x0 x1 x2 hx D0;by_cases EF:mb=0
   .subst EF;have OM:Hid (eF b t.parts):=bZ.1 HMB.o
    go_wp2_with(first
     |(go_at_call 60
       refine hC.mono ?_;rintro e w1 ⟨⟨r,rfl,rfl⟩,bE⟩;have B1:Hid (Below (w.heap.size+1) _ w1):=hB.o.step mU bE;have p1:=eK bE 1;have p2:=eK bE 2;simp only[List.getElem?_toArray,List.getElem?_cons_succ,List.getElem?_cons_zero]at p1 p2)
     |(go_at_call 99;refine(ss _ _ _ _ _ (by omega) _).mono ?_;rintro e w' ⟨r,rfl,hr,rfl⟩;cases r))
    .have HR:Hid (¬(0<=t.lo/\t.lo<=t.hi/\t.hi<=99)):=fun h=>hr.f ⟨h.1,h.2.1,h.2.2,by omega⟩;go_ret;exact aT.mk (r:=1) (HTS.o.trans (bV hN.o (ML HX.o OM.o HR.o) (by decide) tp.o)).symm (Below.boxed (Below.alloc B1.o (by have:=B1.o.size;simpa using this) _))
    .have SW:Hid (oz b t):=⟨OM.o,hr.t.1,hr.t.2.1,hr.t.2.2.1⟩
     clear hr;go_round
     case rel=>exact⟨k+1,by omega,by go_num,lS hN.o (D5 HX.o SW.o),(Below.alloc B1.o (by have:=B1.o.size;simpa using this) _:Below _ _ _)⟩
     case measure=>simp[intOf];omega
   .have OL:Hid (mb≠0):=EF
    go_wp2_with
     (go_at_call 60
      refine hC.mono ?_;rintro e w1 ⟨⟨r,rfl,rfl⟩,bE⟩;have B1:Hid (Below (w.heap.size+1) _ w1):=hB.o.step mU bE)
    go_ret;exact aT.mk (HTS.o.trans (bV hN.o ((MM HX.o (by rw[HMB.o];exact OL.o)).trans HMB.o) OL.o tp.o)).symm (Below.boxed B1.o)
  .have ek:k=b.ab.length:=by omega
   subst ek;go_wp2
   go_ret;exact aT.mk (r:=0) (HTS.o.trans hN.o).symm (Below.boxed hB.o)
theorem Jv (w:World) (v vl:Value) (b:ai) (l:List Int) (hb:au w v b) (hl:aC w vl l) (hp:1<=b.parts.length/\b.parts.length<=5) (MQ:eP b) (nk:eF b l):
 Calls ZP 60 #[v,vl] w (aT w fun s=>s=0):=
 (px w v vl b l hb hl hp MQ).mono fun _ _ ⟨⟨r,h1,h2⟩,h3⟩=>⟨⟨r,h1,h2.trans (bZ.2 nk)⟩,h3⟩
structure me (w:World):Prop where
 c0:w.cell? ⟨0,0,none⟩=some (.func (.func 183) #[] #[])
 c1:w.cell? ⟨0,1,none⟩=some (.func (.func 184) #[] #[])
 c2:w.cell? ⟨0,2,none⟩=some (.func (.func 185) #[] #[])
 c3:w.cell? ⟨0,3,none⟩=some (.func (.func 186) #[] #[])
theorem me.on {w:World} (h:me w) (X:ah w):me X.1:=⟨X.cell h.c0,X.cell h.c1,X.cell h.c2,X.cell h.c3⟩
theorem me.later {w w':World} (h:me w) (k:Below w.heap.size w w'):me w':=h.on ⟨w',k⟩
section
variable (w:World)
theorem zbd:(Instr.index 144 (.agg #[.func (.func 183) #[] #[],.func (.func 184) #[] #[],.func (.func 185) #[] #[],.func (.func 186) #[] #[]]) (.int .i64 0)).run ZP w=.ok (.func (.func 183) #[] #[]) w:=by
 have u:ZP.underlying 144=some (.array 4 84):=by rw[Tz.under];exact Tryz.underlying144
 have a3:=Tryz.isAgg84;have z3:=Tryz.sizeOf84;simp[Instr.index,run_underlying u,asIntOf,part,go_sem,a3,z3]
theorem zbe:(Instr.index 144 (.agg #[.func (.func 183) #[] #[],.func (.func 184) #[] #[],.func (.func 185) #[] #[],.func (.func 186) #[] #[]]) (.int .i64 1)).run ZP w=.ok (.func (.func 184) #[] #[]) w:=by
 have u:ZP.underlying 144=some (.array 4 84):=by rw[Tz.under];exact Tryz.underlying144
 have a3:=Tryz.isAgg84;have z3:=Tryz.sizeOf84;simp[Instr.index,run_underlying u,asIntOf,part,go_sem,a3,z3]
theorem zbf:(Instr.index 144 (.agg #[.func (.func 183) #[] #[],.func (.func 184) #[] #[],.func (.func 185) #[] #[],.func (.func 186) #[] #[]]) (.int .i64 2)).run ZP w=.ok (.func (.func 185) #[] #[]) w:=by
 have u:ZP.underlying 144=some (.array 4 84):=by rw[Tz.under];exact Tryz.underlying144
 have a3:=Tryz.isAgg84;have z3:=Tryz.sizeOf84;simp[Instr.index,run_underlying u,asIntOf,part,go_sem,a3,z3]
theorem zbg:(Instr.index 144 (.agg #[.func (.func 183) #[] #[],.func (.func 184) #[] #[],.func (.func 185) #[] #[],.func (.func 186) #[] #[]]) (.int .i64 3)).run ZP w=.ok (.func (.func 186) #[] #[]) w:=by
 have u:ZP.underlying 144=some (.array 4 84):=by rw[Tz.under];exact Tryz.underlying144
 have a3:=Tryz.isAgg84;have z3:=Tryz.sizeOf84;simp[Instr.index,run_underlying u,asIntOf,part,go_sem,a3,z3]
end
section
variable {b:ai}
theorem Cu (h:bN b≠0):bt b=bN b:=by
 have h2:¬((1<=b.ao/\b.ao<=99)/\1<=b.places/\b.places<=4):=fun k=>h (dt.2 k);rw[jl h2];unfold bt;rw[if_neg h2]
theorem Cv (h0:bN b=0) (h:bD b.places b.parts≠0):bt b=bD b.places b.parts:=by
 unfold bt;rw[if_pos (dt.1 h0),if_neg h]
theorem Cx (h0:bN b=0) (h1:bD b.places b.parts=0) (h:bW b.parts.length b.apart≠0):bt b=bW b.parts.length b.apart:=by
 unfold bt;rw[if_pos (dt.1 h0),if_pos h1,if_neg h]
theorem qa (h0:bN b=0) (h1:bD b.places b.parts=0) (h2:bW b.parts.length b.apart=0):bt b=dh b:=by
 unfold bt;rw[if_pos (dt.1 h0),if_pos h1,if_pos h2]
end
def VE (b:ai) (k:Int):Prop:=k=0\/(k=1/\bN b=0)\/(k=2/\bN b=0/\bD b.places b.parts=0)\/(k=3/\bN b=0/\bD b.places b.parts=0/\bW b.parts.length b.apart=0)\/(k=4/\bt b=0)
theorem lA (w:World) (v:Value) (b:ai) (hb:au w v b) (hs:fL b) (hc:me w):Calls ZP 56 #[v] w (aT w fun s=>s=bt b):=by
 have HB:=hid hb;have HS:Hid (fL b):=hs;obtain⟨v2,v3,v4,rfl,⟨a2,c2,⟨rfl,_,_,_,_⟩,_⟩,⟨a3,c3,⟨rfl,_,_,_,_⟩,_⟩,⟨a4,c4,⟨rfl,_,_,_,_⟩,_⟩⟩:=hb;obtain⟨k0,k1,k2,k3⟩:=hc.later ((Below.refl _ _).alloc (Nat.le_refl _) (.cells #[.int .i64 b.ao,.int .i64 b.places,.slice a2 b.parts.length c2,.slice a3 b.apart.length c3,.slice a4 b.ab.length c4] 26));clear hs hc;go_enter ZF56,Tryz.ntmps56
 go_wp2
 go_loopw [7,4,5] (fun i u v w1=>∃k:Int,Hid (VE b k)/\i=.int .i64 k/\Hid (Below (w.heap.size+1) (w.alloc (.cells #[.int .i64 b.ao,.int .i64 b.places,.slice a2 b.parts.length c2,.slice a3 b.apart.length c3,.slice a4 b.ab.length c4] 26)) w1)) (fun i _ _ _=>4-(intOf i).toNat)
 case atStart=>exact⟨0,(.inl rfl:_\/_),rfl,Below.refl _ _⟩
 case round=>
  obtain⟨k,hk,rfl,hB⟩:=hrel;clear k0 k1 k2 k3;obtain⟨s0,s1,s2,s3,s4⟩:=pv.Rr hB.o;have bE:=HB.o.later (Kp.boxed hB.o);have hs:=hB.o.size;simp at hs;rcases hk.o with rfl|⟨rfl,ho⟩|⟨rfl,ho,hp⟩|⟨rfl,ho,hp,hq⟩|⟨rfl,hz⟩
  .have ix:=zbd wr;clear hk;go_wp2_with(go_at_call 183;refine(Cr _ _ _ bE).mono ?_;rintro e w1 ⟨⟨r,rfl,hr⟩,gz⟩;have HR:Hid (r=bN b):=hr;clear hr;by_cases h0:r=0)
   .go_round
    case rel=>exact⟨1,(.inr (.inl ⟨rfl,by rw[<-HR.o];exact h0⟩):VE b 1),rfl,hB.o.trans (gz.mono hs)⟩
    case measure=>simp[intOf]
   .go_ret;exact aT.mk (HR.o.trans (Cu (by rw[<-HR.o];exact h0)).symm) (Below.boxed (hB.o.trans (gz.mono hs)))
  .have ix:=zbe wr;have HO:=hid ho;have t9:=(dt.1 ho).2;clear hk ho;go_wp2_with(go_at_call 184;refine(Cs _ _ _ bE HS.o t9).mono ?_;rintro e w1 ⟨⟨r,rfl,hr⟩,gz⟩;have HR:Hid (r=bD b.places b.parts):=hr;clear hr;by_cases h0:r=0)
   .go_round
    case rel=>exact⟨2,(.inr (.inr (.inl ⟨rfl,HO.o,by rw[<-HR.o];exact h0⟩)):VE b 2),rfl,hB.o.trans (gz.mono hs)⟩
    case measure=>simp[intOf]
   .go_ret;exact aT.mk (HR.o.trans (Cv HO.o (by rw[<-HR.o];exact h0)).symm) (Below.boxed (hB.o.trans (gz.mono hs)))
  .have ix:=zbf wr;have HO:Hid (bN b=0/\bD b.places b.parts=0):=⟨ho,hp⟩
   have MP:=(j6.1 hp).many;clear hk ho hp;go_wp2_with(go_at_call 185;refine(Ct _ _ _ bE MP).mono ?_;rintro e w1 ⟨⟨r,rfl,hr⟩,gz⟩;have HR:Hid (r=bW b.parts.length b.apart):=hr;clear hr;by_cases h0:r=0)
   .go_round
    case rel=>exact⟨3,(.inr (.inr (.inr (.inl ⟨rfl,HO.o.1,HO.o.2,by rw[<-HR.o];exact h0⟩))):VE b 3),rfl,hB.o.trans (gz.mono hs)⟩
    case measure=>simp[intOf]
   .go_ret;exact aT.mk (HR.o.trans (Cx HO.o.1 HO.o.2 (by rw[<-HR.o];exact h0)).symm) (Below.boxed (hB.o.trans (gz.mono hs)))
  .have ix:=zbg wr;have HO:Hid (bN b=0/\bD b.places b.parts=0/\bW b.parts.length b.apart=0):=⟨ho,hp,hq⟩
   have MP:=(j6.1 hp).many;have MQ:=m8.1 hq;clear hk ho hp hq;go_wp2_with(go_at_call 186;refine(zC _ _ _ bE MP MQ).mono ?_;rintro e w1 ⟨⟨r,rfl,hr⟩,gz⟩;have HR:Hid (r=dh b):=hr;clear hr;by_cases h0:r=0)
   .go_round
    case rel=>exact⟨4,(.inr (.inr (.inr (.inr ⟨rfl,(qa HO.o.1 HO.o.2.1 HO.o.2.2).trans (by rw[<-HR.o];exact h0)⟩))):VE b 4),rfl,hB.o.trans (gz.mono hs)⟩
    case measure=>simp[intOf]
   .go_ret;exact aT.mk (HR.o.trans (qa HO.o.1 HO.o.2.1 HO.o.2.2).symm) (Below.boxed (hB.o.trans (gz.mono hs)))
  .have HZ:=hid hz;clear hk hz;go_wp2
   go_ret;exact aT.mk (r:=0) HZ.o.symm (Below.boxed hB.o)
theorem zD {b:ai} (h:Valid b):fL b:=fun j x hj hx=>by
 have:=(h.parts.all j x hj hx).1.name.2.1;omega
theorem nf (w:World) (v:Value) (b:ai) (hb:au w v b) (hv:Valid b) (hc:me w):Calls ZP 56 #[v] w (aT w fun s=>s=0):=
 (lA w v b hb (zD hv) hc).mono fun _ _ ⟨⟨r,h1,h2⟩,h3⟩=>⟨⟨r,h1,h2.trans (cX.2 hv)⟩,h3⟩
end Go.Proofs.Cz
