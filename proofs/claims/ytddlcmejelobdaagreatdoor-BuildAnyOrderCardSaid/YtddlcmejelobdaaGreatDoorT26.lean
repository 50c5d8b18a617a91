/- A part. Conditions: none. -/
import Derived.Test.YtddlcmejelobdaaGreatDoorT25
import Derived.Laws.IdiomStrings
set_option linter.all false
set_option maxHeartbeats 8000000
set_option maxRecDepth 100000
namespace Go.Proofs.Cz
open Go.RowKit
def F8 (w:nq) (s:ByteArray):∃cap w',(convert 9 214 (.string s)).run ZP w=.ok (.slice (some ⟨w.heap.size,0,none⟩) s.size cap) w'/\Below w.heap.size w w'/\∀j (hj:j<s.size),w'.cell? ⟨w.heap.size,j,none⟩=some (.int .u8 s[j].toNat):=by
 have u9:ZP.underlying 9=some .string:=by rw[Tz.under];exact Tryz.underlying9
 have u77:ZP.underlying 214=some (.slice 5):=by rw[Tz.under];exact Tryz.underlying214
 have u5:ZP.underlying 5=some (.int .u8):=by rw[Tz.under];exact Tryz.underlying5
 refine⟨_,_,run_bytes_of_string w 9 214 5 s u9 u77 u5,?_,?_⟩
 .exact Below.alloc (Below.drewN (Below.refl _ _) 1) (zAB _) _
 .intro j hj;exact(World.cell?_alloc_mark _ _ _ _ _).trans (bytesRow_at s _ j hj)
end Go.Proofs.Cz
namespace Go.Proofs.Cz
open Go.RowKit
end Go.Proofs.Cz
namespace Go.RowKit
def Below.step {B:Nat} {a w w1:nq} {o:Obj} (h:Below B a w) (hs:B<=w.heap.size) (k:Below (w.alloc o).heap.size (w.alloc o) w1):Below B a w1:=
 (Below.alloc h hs o).trans (k.mono (by simp;omega))
end Go.RowKit
namespace Go.Proofs.Cz
open Go.RowKit
variable {a:Option Addr} {cap k n:Nat} {w:nq}
def fL {w1:nq} {cs:Array fu} {t:Nat} (h:Below (w.alloc (.cells cs t)).heap.size (w.alloc (.cells cs t)) w1) (k:Nat):w1.cell? ⟨w.heap.size,k,none⟩=cs[k]?:=boxed h.iy k
def bT.take {v:fu} (h:bT w v n a cap) (hk:k<=n):bT w (.slice a k cap) k a cap:=
 ⟨rfl,zAP hk h.le,h.Q5,h.nil,h.row⟩
def dA.take {l:List Part} (h:dA w (.slice a n cap) l) (hk:k<=l.length):dA w (.slice a k cap) (l.take k):=by
 obtain⟨a',j0,h1,h2⟩:=h;obtain⟨rfl,-,rfl⟩:a=a'/\_/\cap=j0:=by simpa using h1.eq
 have hl:(l.take k).length=k:=by simp;omega
 refine⟨a,cap,by rw[hl];exact h1.take hk,λb e j x hj=>h2 b e j x ?_⟩;have pW:j<k:=by have:=(zAT.1 hj).1;omega
 rw[zDT]at hj;simpa [pW]using hj
def dy.take {l:List (Int×Int)} (h:dy w (.slice a n cap) l) (hk:k<=l.length):dy w (.slice a k cap) (l.take k):=by
 obtain⟨a',j0,h1,h2⟩:=h;obtain⟨rfl,-,rfl⟩:a=a'/\_/\cap=j0:=by simpa using h1.eq
 have hl:(l.take k).length=k:=by simp;omega
 refine⟨a,cap,by rw[hl];exact h1.take hk,λb e j x hj=>h2 b e j x ?_⟩;have pW:j<k:=by have:=(zAT.1 hj).1;omega
 rw[zDT]at hj;simpa [pW]using hj
end Go.Proofs.Cz
namespace Go.Proofs.Cz
open Go.RowKit
def Aq (w:nq) (s:ByteArray) (hs:s.size<=maxLen):Calls ZP 187 #[.string s] w (dq w λr=>Tr r (kd s)):=by
 unfold maxLen at hs;obtain⟨cap,w1,yE,hb,hc⟩:=F8 w s;have HB:=hid hb;have HC:=hid hc;clear hb hc;go_enter ZF187,Tryz.ntmps187
 go_wp2
 go_loop [8,3,4] (λi u v=>∃k:Nat,k<=s.size/\Hid (oU s k)/\i=.int .i64 k) (λi _ _=>s.size-(intOf i).toNat)
 case atStart=>exact⟨0,zAM _,(λj hj h=>absurd h (zEG j):oU s 0),rfl⟩
 case round=>
  obtain⟨k,hk,hN,rfl⟩:=hrel;by_cases av:k<s.size
  .have y0:=HC.o k av;have f7:(k:Int)<(s.size:Int):=by omega
   by_cases hl:vh (s[k].toNat)
   .have HL:=hid hl;obtain⟨a1,a2⟩:=hl;go_wp2
    go_round
    case rel=>exact⟨k+1,by omega,hN.o.succ av (.inl HL.o),by go_num⟩
    case measure=>simp[intOf];omega
   .have HL:=hid hl;by_cases hd:0<k/\Da (s[k].toNat)
    .have HD:=hid hd;obtain⟨qZ,a1,a2⟩:=hd;have mi:(0:Int)<(k:Int):=by omega
     have a3:¬(97:Int)<=s[k].toNat:=by omega
     clear hl;go_wp2
     go_round
     case rel=>exact⟨k+1,by omega,hN.o.succ av (.inr HD.o),by go_num⟩
     case measure=>simp[intOf];omega
    .have Rh:Hid (¬kd s):=λh=>by
      rcases h.2.2 k av av with h1|h1
      .exact hl h1
      .exact hd h1
     by_cases b1:(97:Int)<=s[k].toNat
     .have b2:¬(s[k].toNat:Int)<=122:=λh=>hl ⟨b1,h⟩;by_cases qZ:0<k
      .have mi:(0:Int)<(k:Int):=by omega
       have b4:(48:Int)<=s[k].toNat:=by omega
       have b5:¬(s[k].toNat:Int)<=57:=by omega
       clear hl hd yE;go_wp2
       go_ret;exact dq.mk (r:=false) ⟨(λh=>by cases h),λh=>absurd h Rh.o⟩ HB.o
      .have mi:¬(0:Int)<(k:Int):=by omega
       clear hl hd yE;go_wp2
       go_ret;exact dq.mk (r:=false) ⟨(λh=>by cases h),λh=>absurd h Rh.o⟩ HB.o
     .by_cases qZ:0<k
      .have mi:(0:Int)<(k:Int):=by omega
       by_cases b4:(48:Int)<=s[k].toNat
       .have b5:¬(s[k].toNat:Int)<=57:=λh=>hd ⟨qZ,b4,h⟩;clear hl hd yE;go_wp2
        go_ret;exact dq.mk (r:=false) ⟨(λh=>by cases h),λh=>absurd h Rh.o⟩ HB.o
       .clear hl hd yE;go_wp2
        go_ret;exact dq.mk (r:=false) ⟨(λh=>by cases h),λh=>absurd h Rh.o⟩ HB.o
      .have mi:¬(0:Int)<(k:Int):=by omega
       clear hl hd yE;go_wp2
       go_ret;exact dq.mk (r:=false) ⟨(λh=>by cases h),λh=>absurd h Rh.o⟩ HB.o
  .have ek:k=s.size:=by omega
   subst ek;clear yE;go_wp2_with(go_at_call 115;refine(jx _ _ _ _).mono ?_;rintro e w' ⟨r,rfl,hr,rfl⟩)
   go_ret;exact dq.mk (r:=r) ⟨λh=>by have:=hr.1 h;exact⟨by omega,by omega,hN.o⟩,λh=>hr.2 ⟨by have:=h.1;omega,by have:=h.2.1;omega⟩⟩ HB.o
def xg (w:nq) (g:Nat) (n1 nm:ByteArray) (a b c d:Int) (vf:fu) (af:Option Addr) (lf cf:Nat) (Lv:vf=.slice af lf cf) (hg:w.cell? ⟨g,0,none⟩=some (.string nm)):
 Calls ZP 189 #[.agg #[.string n1,.int .i64 a,.int .i64 b,.int .i64 c,.int .i64 d,vf],.pointer (some ⟨g,0,none⟩)] w (dq w λr=>Tr r (n1=nm)):=by
 subst Lv;have Em:=(Kp.alloc w (.cells #[.string n1,.int .i64 a,.int .i64 b,.int .i64 c,.int .i64 d,.slice af lf cf] 37))
 have Yg:(w.alloc (.cells #[.string n1,.int .i64 a,.int .i64 b,.int .i64 c,.int .i64 d,.slice af lf cf] 37)).cell? ⟨g,0,none⟩=some (.string nm):=
  (am.cell ⟨_,(Below.refl _ _).alloc (zAB _) _⟩ hg:_)
 clear Em;by_cases e:n1=nm
 .subst e;have hd:(n1.toList==n1.toList)=true:=by simp
  go_enter ZF189,Tryz.ntmps189
  go_wp2
  go_ret;exact dq.mk (r:=true) (by unfold Tr;simp) ((Below.refl _ _).alloc (zAB _) _)
 .have hd:(n1.toList==nm.toList)=false:=by
   cases hh:(n1.toList==nm.toList)with
   |false=>rfl
   |true=>exact absurd (Ir hh) e
  have HE:Hid (n1≠nm):=e;clear e;go_enter ZF189,Tryz.ntmps189
  go_wp2
  go_ret;exact dq.mk (r:=false) ⟨(λh=>by cases h),λh=>absurd h HE.o⟩ ((Below.refl _ _).alloc (zAB _) _)
def Ar (w:nq) (v:fu) (l:List Part) (g:Nat) (nm:ByteArray) (h:dA w v l) (hg:w.cell? ⟨g,0,none⟩=some (.string nm)):
 Calls ZP 190 #[v,.func (.func 189) #[] #[.pointer (some ⟨g,0,none⟩)]] w (br w λr=>r=-1/\ig l nm l.length\/0<=r/\∃i y,i<l.length/\l[i]?=some y/\y.name=nm):=by
 obtain⟨a,c,h1,h2⟩:=h;have H:Hid (bT w v l.length a c/\_):=⟨h1,h2⟩
 have HG:=hid hg;obtain⟨rfl,l1,m1,n1,r1⟩:=h1;unfold maxLen at m1;clear h2 n1 r1 hg;go_enter ZF190,Tryz.ntmps190
 go_wp2
 go_loopw [8,5] (λi j w1=>∃k:Nat,k<=l.length/\Hid (ig l nm k)/\i=.int .i64 k/\Hid (Below w.heap.size w w1)) (λi _ _=>l.length-(intOf i).toNat)
 case atStart=>exact⟨0,zAM _,ig.zero _ _,rfl,Below.refl _ _⟩
 case round=>
  obtain⟨k,hk,hN,rfl,hB⟩:=hrel;by_cases av:k<l.length
  .obtain⟨⟨blk,off,sp⟩,x,rfl,hx,x0,x1,x2,x3,x4,vf,x5,x6⟩:=H.o.1.elem H.o.2 av;obtain rfl:sp=none:=x0.1;obtain⟨af,cf,hf,_⟩:=x6;obtain⟨rfl,lf,mf,_,_⟩:=hf;have y0:=(x0.later (Kp.of hB.o)).2;have y1:=(x1.later (Kp.of hB.o)).2;have y2:=(x2.later (Kp.of hB.o)).2;have y3:=(x3.later (Kp.of hB.o)).2;have y4:=(x4.later (Kp.of hB.o)).2;have y5:=(x5.later (Kp.of hB.o)).2;simp only[<-zBD]at y0 y1 y2 y3 y4 y5;have f7:(k:Int)<(l.length:Int):=by omega
   have hgr:=am.cell ⟨wr,hB.o⟩ HG.o;have HX:=hid hx;clear x0 x1 x2 x3 x4 x5 hx
   go_wp2_with
    (go_at_call 189
     refine(xg _ _ _ _ _ _ _ _ _ _ _ _ rfl hgr).mono ?_;rintro e w1 ⟨⟨r,rfl,hr⟩,bq⟩;cases r)
   .go_round
    case rel=>exact⟨k+1,by omega,hN.o.succ HX.o hr.f,by go_num,hB.o.trans (bq.mono hB.o.size)⟩
    case measure=>simp[intOf];omega
   .go_ret;exact br.mk (r:=(k:Int)) (.inr ⟨by omega,k,x,av,HX.o,hr.t⟩) (hB.o.trans (bq.mono hB.o.size))
  .have ek:k=l.length:=by omega
   subst ek;go_wp2
   go_ret;exact br.mk (r:=-1) (.inl ⟨rfl,hN.o⟩) hB.o
def As (w:nq) (v:fu) (l:List Part) (g:Nat) (nm:ByteArray) (h:dA w v l) (hg:w.cell? ⟨g,0,none⟩=some (.string nm)):
 Calls ZP 188 #[v,.func (.func 189) #[] #[.pointer (some ⟨g,0,none⟩)]] w (dq w λr=>Tr r (∃i y,i<l.length/\l[i]?=some y/\y.name=nm)):=by
 go_enter ZF188,Tryz.ntmps188
 go_wp2_with
  (go_at_call 190
   refine(Ar _ _ _ _ _ h hg).mono ?_;rintro e w1 ⟨⟨r,rfl,hr⟩,bq⟩;have HR:=hid hr;clear hr)
 go_ret;refine dq.mk ?_ bq;unfold Tr;rcases HR.o with⟨rfl,h⟩|⟨h0,h⟩
 .simp only[zBP];exact⟨λh1=>by omega,λ⟨i,y,hi,hy,e⟩=>absurd e (h i y hi hy)⟩
 .exact⟨λ_=>h,λ_=>by simp;omega⟩
def dr.eq {w:nq} {P:Bool->Prop} {v:fu} {r:Bool} (h:P r) (e:v=.bool r):dr w P (.returned v) w:=by subst e;exact .mk h
def Kc (w:nq) (v:fu) (l:List Int) (x:Int) (h:ao w v l):Calls ZP 121 #[v,.int .i64 x] w (λe w'=>∃r,e=.returned (.int .i64 r)/\(0<=r↔x∈l)/\w'=w):=by
 obtain⟨a,c,h1,h2⟩:=h;have H:Hid (bT w v l.length a c/\_):=⟨h1,h2⟩
 obtain⟨rfl,l1,m1,n1,r1⟩:=h1;unfold maxLen at m1;clear h2 n1 r1;go_enter ZF121,Tryz.ntmps121
 go_wp2
 go_loop [8,5] (λi j=>∃k:Nat,k<=l.length/\Hid (jw l x k)/\i=.int .i64 k) (λi _=>l.length-(intOf i).toNat)
 case atStart=>exact⟨0,zAM _,jw.zero l x,rfl⟩
 case round=>
  obtain⟨k,hk,hN,rfl⟩:=hrel;by_cases av:k<l.length
  .obtain⟨⟨blk,off,sp⟩,y,rfl,hy,y0⟩:=H.o.1.elem H.o.2 av;obtain rfl:sp=none:=y0.1;have g0:=y0.2;simp only at g0;have HY:=hid hy;have f7:(k:Int)<(l.length:Int):=by omega
   clear y0 hy;by_cases e:x=y
   .subst e;go_wp2
    go_ret;exact⟨k,rfl,⟨λ_=>zBI HY.o,λ_=>by omega⟩,rfl⟩
   .have e':Hid (y≠x):=λh=>e h.symm;go_wp2
    go_round
    case rel=>exact⟨k+1,by omega,hN.o.succ HY.o e'.out,by go_num⟩
    case measure=>simp[intOf];omega
  .have HN:Hid (x∉l):=(by have e:k=l.length:=by omega
                          subst e;exact hN.o.all)
   go_wp2
   go_ret;exact⟨-1,rfl,⟨λh=>by omega,λh=>absurd h HN.o⟩,rfl⟩
def lD (w:nq) (v:fu) (l:List Int) (x:Int) (h:ao w v l):Calls ZP 76 #[v,.int .i64 x] w (dr w λr=>Tr r (x∈l)):=by
 go_enter ZF76,Tryz.ntmps76
 go_wp2_with
  (go_at_call 121
   refine(Kc _ _ _ x h).mono ?_;rintro e w1 ⟨r,rfl,hr,rfl⟩;by_cases h0:0<=r)
 .have hx:Hid (x∈l):=hr.1 h0;go_ret;exact dr.eq (r:=true) (Tr.yes hx.o) (by simp[hx.o])
 .have hx:Hid (¬x∈l):=λh=>by have:=hr.2 h;omega
  go_ret;exact dr.eq (r:=false) (Tr.no hx.o) (by simp[hx.o])
def xh (w:nq) (v:fu) (l:List (Int×Int)) (p q:Int) (h:dy w v l):
 Calls ZP 158 #[v,.agg #[.int .i64 p,.int .i64 q]] w (br w λr=>0<=r↔(p,q)∈l):=by
 obtain⟨a,c,h1,h2⟩:=h;have H:Hid (bT w v l.length a c/\_):=⟨h1,h2⟩
 obtain⟨rfl,l1,m1,n1,r1⟩:=h1;unfold maxLen at m1;clear h2 n1 r1;go_enter ZF158,Tryz.ntmps158
 go_wp2
 go_loopw [8,5] (λi j w1=>∃k:Nat,k<=l.length/\Hid (ii l (p,q) k)/\i=.int .i64 k/\∃n,w1=(w.alloc (.cells #[.int .i64 p,.int .i64 q] 53)).drewN n) (λi _ _=>l.length-(intOf i).toNat)
 case atStart=>exact⟨0,zAM _,ii.zero l _,rfl,0,rfl⟩
 case round=>
  obtain⟨k,hk,hN,rfl,n0,rfl⟩:=hrel;by_cases av:k<l.length
  .obtain⟨⟨blk,off,sp⟩,⟨ya,yb⟩,rfl,hy,y0,y1⟩:=H.o.1.elem H.o.2 av;obtain rfl:sp=none:=y0.1;have g0:=(y0.later (Kp.alloc w (.cells #[.int .i64 p,.int .i64 q] 53))).2;have g1:=(y1.later (Kp.alloc w (.cells #[.int .i64 p,.int .i64 q] 53))).2;simp only[<-zBD]at g0 g1;have HY:=hid hy;have f7:(k:Int)<(l.length:Int):=by omega
   clear y0 y1 hy;by_cases e1:p=ya
   .subst e1;by_cases e2:q=yb
    .subst e2;go_wp2
     go_quiet (fail)
     go_wp2
     go_ret;exact br.mk (r:=k) ⟨λ_=>zBI HY.o,λ_=>by omega⟩ (Below.drewN (Below.drewN (Below.alloc (Below.refl _ _) (zAB _) _) _) _)
    .have bC:Hid ((p,yb)≠(p,q)):=(λh=>e2 (by cases h;rfl):(p,yb)≠(p,q))
     go_wp2
     go_quiet (fail)
     go_wp2
     go_round
     case rel=>exact⟨k+1,by omega,hN.o.succ HY.o bC.o,by go_num,_,rfl⟩
     case measure=>simp[intOf];omega
   .have bC:Hid ((ya,yb)≠(p,q)):=(λh=>e1 (by cases h;rfl):(ya,yb)≠(p,q))
    go_wp2
    go_quiet (fail)
    go_wp2
    go_round
    case rel=>exact⟨k+1,by omega,hN.o.succ HY.o bC.o,by go_num,_,rfl⟩
    case measure=>simp[intOf];omega
  .have HN:Hid ((p,q)∉l):=(by
    have e:k=l.length:=by omega
    subst e;intro hm;obtain⟨j,hj,pW⟩:=zCQ hm;exact hN.o j _ hj (zAJ hj) pW)
   go_wp2
   go_ret;exact br.mk (r:=-1) ⟨λh=>by omega,λh=>absurd h HN.o⟩ (Below.drewN (Below.alloc (Below.refl _ _) (zAB _) _) _)
def dS (w:nq) (v:fu) (l:List (Int×Int)) (p q:Int) (h:dy w v l):
 Calls ZP 137 #[v,.agg #[.int .i64 p,.int .i64 q]] w (dq w λr=>Tr r ((p,q)∈l)):=by
 go_enter ZF137,Tryz.ntmps137
 have h':=h.later (Kp.alloc w (.cells #[.int .i64 p,.int .i64 q] 53))
 go_wp2_with
  (go_at_call 158
   refine(xh _ _ _ p q h').mono ?_;rintro e w1 ⟨⟨r,rfl,hr⟩,bq⟩;by_cases h0:0<=r)
 .have hx:Hid ((p,q)∈l):=hr.1 h0;go_ret;exact dq.eq (r:=true) (Tr.yes hx.o) (Below.step (Below.refl _ _) (zAB _) bq) (by simp[hx.o])
 .have hx:Hid (¬(p,q)∈l):=λh=>by have:=hr.2 h;omega
  go_ret;exact dq.eq (r:=false) (Tr.no hx.o) (Below.step (Below.refl _ _) (zAB _) bq) (by simp[hx.o])
open Classical in
noncomputable def cw (b:ab):Int:=if(1<=b.ak/\b.ak<=99)/\1<=b.ah/\b.ah<=4 then 0 else 1
def dU {b:ab}:cw b=0↔(1<=b.ak/\b.ak<=99)/\1<=b.ah/\b.ah<=4:=by
 unfold cw;split
 .rename_i h;exact⟨λ_=>h,λ_=>rfl⟩
 .rename_i h;exact⟨λh1=>absurd h1 (by decide),λh2=>absurd h2 h⟩
def ke {b:ab} (h:¬((1<=b.ak/\b.ak<=99)/\1<=b.ah/\b.ah<=4)):cw b=1:=by unfold cw;rw[zAG h]
def F9 (w:nq) (v:fu) (b:ab) (hb:ar w v b):Calls ZP 183 #[v] w (br w λr=>r=cw b):=by
 obtain⟨v2,v3,v4,rfl,⟨a2,c2,⟨rfl,_,_,_,_⟩,_⟩,⟨a3,c3,⟨rfl,_,_,_,_⟩,_⟩,⟨a4,c4,⟨rfl,_,_,_,_⟩,_⟩⟩:=hb;go_enter ZF183,Tryz.ntmps183
 go_wp2_with(first
  |(go_at_call 115;(with_reducible refine(jx _ b.ak _ _).mono ?_);rintro e w' ⟨r,rfl,sn,rfl⟩;cases r)
  |(go_at_call 115;(with_reducible refine(jx _ b.ah _ _).mono ?_);rintro e w' ⟨r,rfl,qT,rfl⟩;cases r))
 .go_ret;exact br.mk (r:=1) (ke λh=>sn.f h.1).symm ((Below.refl _ _).alloc (zAB _) _)
 .go_ret;exact br.mk (r:=1) (ke λh=>qT.f h.2).symm ((Below.refl _ _).alloc (zAB _) _)
 .go_ret;exact br.mk (r:=0) (dU.2 ⟨sn.t,qT.t⟩).symm ((Below.refl _ _).alloc (zAB _) _)
def Ga (w:nq) (v:fu) (b:ab) (hb:ar w v b) (hs:d9 b) (q7:1<=b.ah/\b.ah<=4):Calls ZP 184 #[v] w (br w λr=>r=bU b.ah b.ptz):=by
 obtain⟨v2,v3,v4,rfl,Nu,h3,h4⟩:=hb;have HPA:=hid Nu;have HS:Hid (d9 b):=hs;obtain⟨a2,c2,h2,f2⟩:=Nu;have H2:Hid (bT w v2 b.ptz.length a2 c2/\_):=⟨h2,f2⟩
 obtain⟨rfl,l2,m2,n2,r2⟩:=h2;obtain⟨a3,c3,⟨rfl,_,_,_,_⟩,_⟩:=h3;obtain⟨a4,c4,⟨rfl,_,_,_,_⟩,_⟩:=h4;unfold maxLen at m2;clear r2 f2 n2 hs;go_enter ZF184,Tryz.ntmps184
 go_wp2_with(go_at_call 115;refine(jx _ _ _ _).mono ?_;rintro e w' ⟨r,rfl,hr,rfl⟩;cases r)
 .go_ret;exact br.mk (r:=2) (by unfold bU;rw[zAG (λh=>hr.f (by omega))]) ((Below.refl _ _).alloc (zAB _) _)
 have hm:=hr.t;have De:Hid (bU b.ah b.ptz=scan (de b.ah b.ptz) b.ptz.length):=F6 (by omega);clear hr;go_loopw [17,3,4] (λi u v w1=>∃k:Nat,k<=b.ptz.length/\i=.int .i64 k/\Hid (scan (de b.ah b.ptz) k=0)/\Hid (Below (w.heap.size+1) (w.alloc (.cells #[.int .i64 b.ak,.int .i64 b.ah,.slice a2 b.ptz.length c2,.slice a3 b.aL.length c3,.slice a4 b.aX.length c4] 78)) w1)) (λi _ _ _=>b.ptz.length-(intOf i).toNat)
 case atStart=>exact⟨0,zAM _,rfl,rfl,Below.refl _ _⟩
 case round=>
  obtain⟨k,hk,rfl,hN,hB⟩:=hrel;have g1:=boxed hB.o 1;have g2:=boxed hB.o 2;simp only[zCA,zBN,zBF]at g1 g2;by_cases av:k<b.ptz.length
  .obtain⟨⟨blk,off,sp⟩,x,rfl,hx,x0,x1,x2,x3,x4,vf,x5,x6⟩:=H2.o.1.elem H2.o.2 av;obtain rfl:sp=none:=x0.1;have x7:=x6.later (Kp.boxed hB.o);obtain⟨af,cf,hf,_⟩:=x6;obtain⟨rfl,lf,mf,_,_⟩:=hf;unfold maxLen at mf;have HX:Hid (b.ptz[k]?=some x/\ao wr (.slice af x.fits.length cf) x.fits):=⟨hx,x7⟩
   have cr:x.name.size<=maxLen:=by have:=HS.o k x av hx;unfold maxLen;omega
   have yF:=hid av;have y0:=(x0.later (Kp.boxed hB.o)).2;have y1:=(x1.later (Kp.boxed hB.o)).2;have y2:=(x2.later (Kp.boxed hB.o)).2;have y3:=(x3.later (Kp.boxed hB.o)).2;have y4:=(x4.later (Kp.boxed hB.o)).2;have y5:=(x5.later (Kp.boxed hB.o)).2;simp only[<-zBD]at y0 y1 y2 y3 y4 y5;have nI:w.heap.size+1<=wr.heap.size:=by have:=hB.o.size;simp at this;omega
   have qm:blk<w.heap.size:=x0.lt;have f7:(k:Int)<(b.ptz.length:Int):=by omega
   clear x0 x1 x2 x3 x4 x5 x7 hx
   go_wp2_with(first
    |(go_at_call 187
      refine(Aq _ _ cr).mono ?_;rintro e w1 ⟨⟨r,rfl,WJ⟩,bq⟩;have B1:Hid (Below (w.heap.size+1) _ w1):=hB.o.step nI bq;have p0:=fL bq 0;have p1:=fL bq 1;have p2:=fL bq 2;have p3:=fL bq 3;have p4:=fL bq 4;have p5:=fL bq 5;have q1:=boxed B1.o 1;have q2:=boxed B1.o 2;simp only[zCA,zBN,zBF]at p0 p1 p2 p3 p4 p5 q1 q2;cases r)
    |(go_at_call 188
      refine(As _ _ (b.ptz.take k) _ x.name ((HPA.o.later (Kp.boxed B1.o)).take hk) p0).mono ?_;rintro e w2 ⟨⟨r,rfl,TQ⟩,eQ⟩;have B2:Hid (Below (w.heap.size+1) _ w2):=B1.o.trans (eQ.mono (by have:=B1.o.size;simpa using this));have s1:=am.cell ⟨w2,eQ⟩ p1;have s2:=am.cell ⟨w2,eQ⟩ p2;have s3:=am.cell ⟨w2,eQ⟩ p3;have s4:=am.cell ⟨w2,eQ⟩ p4;have s5:=am.cell ⟨w2,eQ⟩ p5;have t1:=am.cell ⟨w2,eQ⟩ q1;simp only at s1 s2 s3 s4 s5 t1;have s5a:∀o,(w2.alloc o).cell? ⟨wr.heap.size,5,none⟩=_:=λo=>am.cell ⟨w2.alloc o,(Below.refl _ _).alloc (zAB _) o⟩ s5;have t1a:∀o,(w2.alloc o).cell? ⟨w.heap.size,1,none⟩=_:=λo=>am.cell ⟨w2.alloc o,(Below.refl _ _).alloc (zAB _) o⟩ t1;have HF:Hid (∀o,ao (w2.alloc o) (.slice af x.fits.length cf) x.fits):=λo=>(HX.o.2.later (Kp.trans (Kp.alloc wr _) (Kp.of bq) (by simp))).later (Kp.trans (Kp.of eQ) (Kp.alloc w2 o) eQ.size)
      have xi:Hid (r=true\/ig b.ptz x.name k):=(by
       cases r with
       |true=>exact .inl rfl
       |false=>exact .inr λi y hi hy e=>TQ.f ⟨i,y,by rw[List.length_take];omega,by rw[zFO hi];exact hy,e⟩)
      have HNY:Hid (r=false\/∃i y,i<k/\b.ptz[i]?=some y/\y.name=x.name):=(by
       cases r with
       |false=>exact .inl rfl
       |true=>
        obtain⟨i,y,hi,hy,e⟩:=TQ.t;have LG:i<k:=by rw[List.length_take]at hi;omega
        exact .inr ⟨i,y,LG,by rw[zFO LG]at hy;exact hy,e⟩)
      clear p0 p1 p2 p3 p4 p5 q1 q2 TQ;cases r)
    |(go_at_call 115;(with_reducible refine(jx _ x.cost _ _).mono ?_);rintro e w' ⟨r,rfl,hrc,rfl⟩;cases r)
    |(go_at_call 115;(with_reducible refine(jx _ x.dm _ _).mono ?_);rintro e w' ⟨r,rfl,VT,rfl⟩;cases r)
    |(go_at_call 99;refine(vg _ _ _ _ _ (by omega) _).mono ?_;rintro e w' ⟨r,rfl,hrx,rfl⟩;cases r))
   .go_ret;exact br.mk (r:=4) (De.o.trans (cH hN.o (WA HX.o.1 WJ.f) (by decide) yF.o)).symm (Below.boxed B1.o)
   .go_ret;exact br.mk (r:=1) (De.o.trans (cH hN.o (F5 HX.o.1 WJ.t (xi.o.resolve_left (by simp)) λh=>hrc.f h.1) (by decide) yF.o)).symm (Below.boxed B2.o)
   .go_ret;exact br.mk (r:=1) (De.o.trans (cH hN.o (F5 HX.o.1 WJ.t (xi.o.resolve_left (by simp)) λh=>VT.f h.2.1) (by decide) yF.o)).symm (Below.boxed B2.o)
   .go_ret;exact br.mk (r:=1) (De.o.trans (cH hN.o (F5 HX.o.1 WJ.t (xi.o.resolve_left (by simp)) λh=>hrx.f ⟨h.2.2.1.1,h.2.2.1.2.1,h.2.2.1.2.2,h.2.2.2⟩) (by decide) yF.o)).symm (Below.boxed (Below.alloc B2.o (by have:=B2.o.size;simpa using this) _))
   .have HPB:Hid (de b.ah b.ptz k=scan (iw b.ah x.fits) x.fits.length):=(by
     have h:=hrx.t;exact Nq HX.o.1 WJ.t (xi.o.resolve_left (by simp)) ⟨hrc.t,VT.t,⟨h.1,h.2.1,h.2.2.1⟩,h.2.2.2⟩)
    have hw4:wrap64 (b.ah-1)=b.ah-1:=by unfold wrap64;omega
    have iI:Hid (Below w.heap.size w _):=Below.boxed (Below.alloc B2.o (by have:=B2.o.size;simpa using this) (.cells #[.int .i64 x.lo,.int .i64 x.hi] 34));clear WJ hrc VT hrx bq eQ;go_loop [51,5,6] (λi u v=>∃m:Nat,m<=x.fits.length/\i=.int .i64 m/\Hid (scan (iw b.ah x.fits) m=0)) (λi _ _=>x.fits.length-(intOf i).toNat)
    case atStart=>exact⟨0,zAM _,rfl,rfl⟩
    case round=>
     obtain⟨m,hm2,rfl,hM⟩:=hrel;by_cases iS:m<x.fits.length
     .obtain⟨a',j0,En,hf2⟩:=HF.o (.cells #[.int .i64 x.lo,.int .i64 x.hi] 34);have he:=En.eq;simp only[Value.slice.injEq]at he;obtain⟨rfl,-,rfl⟩:=he;obtain⟨⟨fb,fo,fs⟩,y,rfl,hy,y0⟩:=En.elem hf2 iS;obtain rfl:fs=none:=y0.1;have z0:=y0.2;simp only at z0;have HY:=hid hy;have HMK:=hid iS;have zaQ:(m:Int)<(x.fits.length:Int):=by omega
      by_cases yx:0<=y/\y<=b.ah-1
      .have e3:(decide (0<=y)&&decide (y<=b.ah-1))=true:=by simpa using yx
       have Nv:=hid yx;clear yx;by_cases I8:0<m
       .obtain⟨b',z,Nm,TU,z1⟩:=En.elem hf2 (show m-1<x.fits.length by omega);cases Nm;have z1:=z1.2;simp only at z1;have HZ:Hid (x.fits[m-1]?=some z):=TU;have TW:Hid (0<m):=I8;have nS:wrap64 ((m:Int)-1)=((m-1:Nat):Int):=by unfold wrap64;omega
        have mi:(0:Int)<(m:Int):=by omega
        have mw:((m-1:Nat):Int)<(x.fits.length:Int):=by omega
        clear TU En hf2 y0 hy;by_cases hzy:y<=z
        .have HZY:Hid (y<=z):=hzy;go_wp2_with(go_at_call 115;refine(dd _ _ _ _).mono ?_;rw[e3];rintro e w' ⟨rfl,rfl⟩)
         go_ret;exact br.mk (r:=7) (De.o.trans (cH hN.o (HPB.o.trans (cH hM.o (zaT HY.o Nv.o TW.o HZ.o HZY.o) (by decide) HMK.o)) (by decide) yF.o)).symm iI.o
        .have HZY:Hid (z<y):=Int.lt_of_not_ge hzy;go_wp2_with(go_at_call 115;refine(dd _ _ _ _).mono ?_;rw[e3];rintro e w' ⟨rfl,rfl⟩)
         go_round
         case rel=>exact⟨m+1,by omega,by go_num,nK hM.o (Np HY.o Nv.o λz' _ qm=>by rw[HZ.o]at qm;cases qm;exact HZY.o)⟩
         case measure=>simp[intOf];omega
       .have mi:¬(0:Int)<(m:Int):=by omega
        have TW:Hid (¬0<m):=I8;clear En hf2 y0 hy;go_wp2_with(go_at_call 115;refine(dd _ _ _ _).mono ?_;rw[e3];rintro e w' ⟨rfl,rfl⟩)
        go_round
        case rel=>exact⟨m+1,by omega,by go_num,nK hM.o (Np HY.o Nv.o λz' h _=>absurd h TW.o)⟩
        case measure=>simp[intOf];omega
      .have e3:(decide (0<=y)&&decide (y<=b.ah-1))=false:=by
        cases hd:(decide (0<=y)&&decide (y<=b.ah-1))with
        |false=>rfl
        |true=>exact absurd (by simpa using hd) yx
       have Nv:=hid yx;clear yx En hf2 y0 hy;go_wp2_with(go_at_call 115;refine(dd _ _ _ _).mono ?_;rw[e3];rintro e w' ⟨rfl,rfl⟩)
       go_ret;exact br.mk (r:=6) (De.o.trans (cH hN.o (HPB.o.trans (cH hM.o (zaS HY.o Nv.o) (by decide) HMK.o)) (by decide) yF.o)).symm iI.o
     .have em:m=x.fits.length:=by omega
      subst em;have HK:Hid (de b.ah b.ptz k=0):=HPB.o.trans hM.o;go_wp2
      go_round
      case rel=>exact⟨k+1,by omega,by go_num,nK hN.o HK.o,(Below.alloc B2.o (by have:=B2.o.size;simpa using this) _:Below _ _ _)⟩
      case measure=>simp[intOf];omega
   .obtain⟨i,y,hi,hy,OQ⟩:=HNY.o.resolve_left (by simp);go_ret;exact br.mk (r:=5) (De.o.trans (cH hN.o (WC HX.o.1 WJ.t hi hy OQ) (by decide) yF.o)).symm (Below.boxed B2.o)
  .have ek:k=b.ptz.length:=by omega
   subst ek;go_wp2
   go_ret;exact br.mk (r:=0) (De.o.trans hN.o).symm (Below.boxed hB.o)
def Gb (w:nq) (v:fu) (b:ab) (hb:ar w v b) (Ri:1<=b.ptz.length/\b.ptz.length<=5):Calls ZP 185 #[v] w (br w λr=>r=cI b.ptz.length b.aL):=by
 obtain⟨v2,v3,v4,rfl,h2,Nu,h4⟩:=hb;have HPA:=hid Nu;obtain⟨a3,c3,h3,f3⟩:=Nu;have H3:Hid (bT w v3 b.aL.length a3 c3/\_):=⟨h3,f3⟩
 obtain⟨rfl,l3,m3,n3,r3⟩:=h3;obtain⟨a2,c2,⟨rfl,_,m2,_,_⟩,_⟩:=h2;obtain⟨a4,c4,⟨rfl,_,_,_,_⟩,_⟩:=h4;unfold maxLen at m3;clear r3 f3 n3 m2;have iO:wrap64 ((b.ptz.length:Int)-1)=b.ptz.length-1:=by unfold wrap64;omega
 by_cases Gc:(5:Int)<(b.aL.length:Int)
 .go_enter ZF185,Tryz.ntmps185
  go_wp2
  go_ret;exact br.mk (r:=2) (by unfold cI;rw[zAG (by omega)]) ((Below.refl _ _).alloc (zAB _) _)
 have De:Hid (cI b.ptz.length b.aL=scan (dQ b.ptz.length b.aL) b.aL.length):=F7 (by omega);go_enter ZF185,Tryz.ntmps185
 go_wp2
 go_loopw [14,3,4] (λi u v w1=>∃k:Nat,k<=b.aL.length/\i=.int .i64 k/\Hid (scan (dQ b.ptz.length b.aL) k=0)/\Hid (Below (w.heap.size+1) (w.alloc (.cells #[.int .i64 b.ak,.int .i64 b.ah,.slice a2 b.ptz.length c2,.slice a3 b.aL.length c3,.slice a4 b.aX.length c4] 78)) w1)) (λi _ _ _=>b.aL.length-(intOf i).toNat)
 case atStart=>exact⟨0,zAM _,rfl,rfl,Below.refl _ _⟩
 case round=>
  obtain⟨k,hk,rfl,hN,hB⟩:=hrel;have g2:=boxed hB.o 2;have g3:=boxed hB.o 3;simp only[zCA,zBN,zBF]at g2 g3;by_cases av:k<b.aL.length
  .obtain⟨⟨blk,off,sp⟩,⟨xa,xb⟩,rfl,hx,x0,x1⟩:=H3.o.1.elem H3.o.2 av;obtain rfl:sp=none:=x0.1;have HX:=hid hx;have yF:=hid av;have y0:=(x0.later (Kp.boxed hB.o)).2;have y1:=(x1.later (Kp.boxed hB.o)).2;simp only[<-zBD]at y0 y1;have nI:w.heap.size+1<=wr.heap.size:=by have:=hB.o.size;simp at this;omega
   have qm:blk<w.heap.size:=x0.lt;have f7:(k:Int)<(b.aL.length:Int):=by omega
   have mi:(k:Int)<=(c3:Int):=by omega
   clear x0 x1 hx;have HA:Hid (Below w.heap.size w (wr.alloc (.cells #[.int .i64 xa,.int .i64 xb] 53))):=Below.one (Below.boxed hB.o) (by omega) _ 0;have Zi:∀o,(wr.alloc o).cell? ⟨w.heap.size,2,none⟩=some (.slice a2 b.ptz.length c2):=λo=>(eR (by show w.heap.size<_;omega) o).trans g2;by_cases h1:0<=xa/\xa<=(b.ptz.length:Int)-1
   .have e1:(decide (0<=xa)&&decide (xa<=(b.ptz.length:Int)-1))=true:=by simpa using h1
    have HN1:=hid h1;clear h1;by_cases h2:0<=xb/\xb<=(b.ptz.length:Int)-1
    .have e2:(decide (0<=xb)&&decide (xb<=(b.ptz.length:Int)-1))=true:=by simpa using h2
     have HN2:=hid h2;clear h2;by_cases h3:xb<xa
     .have HN3:Hid (¬xa<=xb):=Int.not_le.2 h3;go_wp2_with(go_at_call 115;refine(dd _ _ _ _).mono ?_;(first|rw[e1]|rw[e2]);rintro e w' ⟨rfl,rfl⟩)
      go_ret;exact br.mk (r:=7) (De.o.trans (cH hN.o (WH HX.o ⟨HN1.o,HN2.o⟩ (λ(h:xa<=xb)=>by have:=HN3.o;omega)) (by decide) yF.o)).symm HA.o
     .have Yj:Hid (rE b.ptz.length (xa,xb)):=⟨HN1.o,HN2.o,Int.not_lt.1 h3⟩
      have G3:∀X:am (wr.alloc (.cells #[.int .i64 xa,.int .i64 xb] 53)),X.1.cell? ⟨w.heap.size,3,none⟩=some (.slice (some ⟨blk,off,none⟩) b.aL.length c3):=λX=>
       X.cell ((eR (by show w.heap.size<_;omega) _).trans g3)
      have T0:∀X:am (wr.alloc (.cells #[.int .i64 xa,.int .i64 xb] 53)),X.1.cell? ⟨wr.heap.size,0,none⟩=some (.int .i64 xa):=λX=>fL X.2 0;have T1:∀X:am (wr.alloc (.cells #[.int .i64 xa,.int .i64 xb] 53)),X.1.cell? ⟨wr.heap.size,1,none⟩=some (.int .i64 xb):=λX=>fL X.2 1;have hz:=hid nI;by_cases fe:(xa,xb)∈b.aL.take k
      .have WK:Hid (∃i,i<k/\b.aL[i]?=some (xa,xb)):=by
        obtain⟨j,hj,pW⟩:=zCQ fe;rw[List.getElem_take]at pW;have S5:j<b.aL.length:=by simp at hj;omega
        exact⟨j,by simp at hj;omega,by rw[zAJ S5,pW]⟩
       have oY:∀X:am (wr.alloc (.cells #[.int .i64 xa,.int .i64 xb] 53)),Calls ZP 137 #[.slice (some ⟨blk,off,none⟩) k c3,.agg #[.int .i64 xa,.int .i64 xb]] X.1 (λe jy=>e=.returned (.bool true)/\∃Y:am (wr.alloc (.cells #[.int .i64 xa,.int .i64 xb] 53)),jy=Y.1):=λX=>
        (dS _ _ _ _ _ (((HPA.o.later (Kp.boxed hB.o)).later (Kp.trans (Kp.alloc wr _) X.kp (by simp))).take hk)).mono λe w' ⟨⟨r,h1,h2⟩,h3⟩=>⟨by cases r with
          |true=>exact h1
          |false=>exact absurd fe h2.f,X.on h3⟩
       clear fe;go_wp2_with(go_at_call 115;refine(dd _ _ _ _).mono ?_;(first|rw[e1]|rw[e2]);rintro e w' ⟨rfl,rfl⟩)
       refine ap (by kernel_rfl) (by kernel_rfl) ?_;repeat(go_big_quiet_step (first|(go_at_call 137;exact oY _)))
       refine wpQuiet_nil ?_;rintro _ ⟨X,rfl⟩;go_wp2
       go_ret;obtain⟨i,hi,hy⟩:=WK.o;exact br.mk (r:=5) (De.o.trans (cH hN.o (WI HX.o Yj.o hi hy) (by decide) yF.o)).symm (Below.boxed (hB.o.step hz.o X.2))
      .have HNP:Hid (ii b.aL (xa,xb) k):=λi y hi hy e=>by
        subst e;have hil:=(zAT.1 hy)
        exact fe (zGC.2 ⟨i,by rw[zFO hi];exact hy⟩)
       have oY:∀X:am (wr.alloc (.cells #[.int .i64 xa,.int .i64 xb] 53)),Calls ZP 137 #[.slice (some ⟨blk,off,none⟩) k c3,.agg #[.int .i64 xa,.int .i64 xb]] X.1 (λe jy=>e=.returned (.bool false)/\∃Y:am (wr.alloc (.cells #[.int .i64 xa,.int .i64 xb] 53)),jy=Y.1):=λX=>
        (dS _ _ _ _ _ (((HPA.o.later (Kp.boxed hB.o)).later (Kp.trans (Kp.alloc wr _) X.kp (by simp))).take hk)).mono λe w' ⟨⟨r,h1,h2⟩,h3⟩=>⟨by cases r with
          |false=>exact h1
          |true=>exact absurd h2.t fe,X.on h3⟩
       clear fe;go_wp2_with(go_at_call 115;refine(dd _ _ _ _).mono ?_;(first|rw[e1]|rw[e2]);rintro e w' ⟨rfl,rfl⟩)
       refine ap (by kernel_rfl) (by kernel_rfl) ?_;repeat(go_big_quiet_step (first|(go_at_call 137;exact oY _)))
       refine wpQuiet_nil ?_;rintro _ ⟨X,rfl⟩;go_wp2
       go_round
       case rel=>exact⟨k+1,by omega,by go_num,nK hN.o (Nt HX.o Yj.o HNP.o),hB.o.step hz.o X.2⟩
       case measure=>simp[intOf];omega
    .have e2:(decide (0<=xb)&&decide (xb<=(b.ptz.length:Int)-1))=false:=by
      cases hd:(decide (0<=xb)&&decide (xb<=(b.ptz.length:Int)-1))with
      |false=>rfl
      |true=>exact absurd (by simpa using hd) h2
     have HN2:=hid h2;clear h2;by_cases zT:xa=xb
     .exact absurd HN1.o (by rw[zT];exact HN2.o)
     .clear zT;go_wp2_with(go_at_call 115;refine(dd _ _ _ _).mono ?_;(first|rw[e1]|rw[e2]);rintro e w' ⟨rfl,rfl⟩)
      go_ret;exact br.mk (r:=6) (De.o.trans (cH hN.o (Ns HX.o λh=>HN2.o h.2) (by decide) yF.o)).symm HA.o
   .have e1:(decide (0<=xa)&&decide (xa<=(b.ptz.length:Int)-1))=false:=by
     cases hd:(decide (0<=xa)&&decide (xa<=(b.ptz.length:Int)-1))with
     |false=>rfl
     |true=>exact absurd (by simpa using hd) h1
    have HN1:=hid h1;clear h1;go_wp2_with(go_at_call 115;refine(dd _ _ _ _).mono ?_;rw[e1];rintro e w' ⟨rfl,rfl⟩)
    go_ret;exact br.mk (r:=6) (De.o.trans (cH hN.o (Ns HX.o λh=>HN1.o h.1) (by decide) yF.o)).symm HA.o
  .have ek:k=b.aL.length:=by omega
   subst ek;go_wp2
   go_ret;exact br.mk (r:=0) (De.o.trans hN.o).symm (Below.boxed hB.o)
def yG {b:ab} (h:fQ b) (p q:Int):(min p q,max p q)∈b.aL↔Apart b.aL p q:=by
 constructor
 .intro hm;refine⟨_,hm,?_⟩;by_cases e:p<=q
  .left;simp only;omega
  .right;simp only;omega
 .rintro⟨⟨x,y⟩,hm,hx⟩;obtain⟨j,hj,pW⟩:=zCQ hm;have hle:=(h.all j _ hj (by rw[zAJ hj,pW])).1.le
  have:(min p q,max p q)=(x,y):=by
   rcases hx with⟨rfl,rfl⟩|⟨rfl,rfl⟩<;>simp only at*<;>ext<;>simp only<;>omega
  rw[this];exact hm
def oZ (w:nq) (v:fu) (b:ab) (p q:Int) (hb:ar w v b) (h:fQ b):
 Calls ZP 116 #[v,.int .i64 p,.int .i64 q] w (dq w λr=>Tr r (Apart b.aL p q)):=by
 obtain⟨v2,v3,v4,rfl,h2,Yk,h4⟩:=hb;obtain⟨a2,c2,⟨rfl,_,_,_,_⟩,_⟩:=h2;obtain⟨a4,c4,⟨rfl,_,_,_,_⟩,_⟩:=h4;have hP0:=Yk;obtain⟨a3,c3,⟨rfl,_,_,_,_⟩,_⟩:=hP0;have Yk:=Yk.later (Kp.alloc w (.cells #[.int .i64 b.ak,.int .i64 b.ah,.slice a2 b.ptz.length c2,.slice a3 b.aL.length c3,.slice a4 b.aX.length c4] 78));by_cases hqp:q<p
 .have hC:=dS _ _ _ q p Yk
  have hI:(q,p)∈b.aL↔Apart b.aL p q:=by
   have:=yG h p q;rwa [show min p q=q by omega,show max p q=p by omega]at this
  have zmL:¬p<q:=by omega
  go_enter ZF116,Tryz.ntmps116
  go_wp2_with(go_at_call 137;refine hC.mono ?_;rintro e w1 ⟨⟨r,rfl,hr⟩,bq⟩;cases r)
  .go_ret;exact dq.mk (Tr.no λha=>hr.f (hI.2 ha)) (Below.step (Below.refl _ _) (zAB _) bq)
  .go_ret;exact dq.mk (Tr.yes (hI.1 hr.t)) (Below.step (Below.refl _ _) (zAB _) bq)
 .have hI:(p,q)∈b.aL↔Apart b.aL p q:=by
   have:=yG h p q;rwa [show min p q=p by omega,show max p q=q by omega]at this
  by_cases hpq:p<q
  .have hC:=dS _ _ _ p q Yk;go_enter ZF116,Tryz.ntmps116
   go_wp2_with(go_at_call 137;refine hC.mono ?_;rintro e w1 ⟨⟨r,rfl,hr⟩,bq⟩;cases r)
   .go_ret;exact dq.mk (Tr.no λha=>hr.f (hI.2 ha)) (Below.step (Below.refl _ _) (zAB _) bq)
   .go_ret;exact dq.mk (Tr.yes (hI.1 hr.t)) (Below.step (Below.refl _ _) (zAB _) bq)
  .obtain rfl:p=q:=by omega
   have hC:=dS _ _ _ p p Yk;go_enter ZF116,Tryz.ntmps116
   go_wp2_with(go_at_call 137;refine hC.mono ?_;rintro e w1 ⟨⟨r,rfl,hr⟩,bq⟩;cases r)
   .go_ret;exact dq.mk (Tr.no λha=>hr.f (hI.2 ha)) (Below.step (Below.refl _ _) (zAB _) bq)
   .go_ret;exact dq.mk (Tr.yes (hI.1 hr.t)) (Below.step (Below.refl _ _) (zAB _) bq)
def oV.Nw {w w1:nq} {v0 v1 v2 v3 v4:fu} {t:Nat} (h:Below (w.heap.size+1) (w.alloc (.cells #[v0,v1,v2,v3,v4] t)) w1):oV w1 w.heap.size v0 v1 v2 v3 v4:=
 ⟨boxed h 0,boxed h 1,boxed h 2,boxed h 3,boxed h 4⟩
def Nx (w:nq) (g n c:Nat) (a:Option Addr) (k:Int) (hn:1<=n/\n<=5) (hg:w.cell? ⟨g,2,none⟩=some (.slice a n c)):
 Calls ZP 114 #[.int .i64 k,.pointer (some ⟨g,0,none⟩)] w (dr w λr=>Tr r (¬(0<=k/\k<=(n:Int)-1))):=by
 have iO:wrap64 ((n:Int)-1)=n-1:=by unfold wrap64;omega
 go_enter ZF114,Tryz.ntmps114
 go_wp2_with(go_at_call 115;refine(jx _ _ _ _).mono ?_;rintro e w' ⟨r,rfl,hr,rfl⟩;cases r)
 .go_ret;exact dr.mk (Tr.yes hr.f)
 .go_ret;exact dr.mk (Tr.no λh=>h hr.t)
def Df (w:nq) (v:fu) (l:List Int) (g n c:Nat) (a:Option Addr) (h:ao w v l) (hn:1<=n/\n<=5) (hg:w.cell? ⟨g,2,none⟩=some (.slice a n c)):
 Calls ZP 136 #[v,.func (.func 114) #[] #[.pointer (some ⟨g,0,none⟩)]] w (λe w'=>∃r,e=.returned (.int .i64 r)/\(0<=r↔¬m6 l n l.length)/\w'=w):=by
 obtain⟨a1,c1,h1,h2⟩:=h;have H:Hid (bT w v l.length a1 c1/\_):=⟨h1,h2⟩
 have HG:=hid hg;obtain⟨rfl,l1,m1,n1,r1⟩:=h1;unfold maxLen at m1;clear h2 n1 r1 hg;go_enter ZF136,Tryz.ntmps136
 go_wp2
 go_loop [8,5] (λi j=>∃k:Nat,k<=l.length/\Hid (m6 l n k)/\i=.int .i64 k) (λi _=>l.length-(intOf i).toNat)
 case atStart=>exact⟨0,zAM _,m6.zero _ _,rfl⟩
 case round=>
  obtain⟨k,nS,hN,rfl⟩:=hrel;by_cases av:k<l.length
  .obtain⟨⟨blk,off,sp⟩,y,rfl,hy,y0⟩:=H.o.1.elem H.o.2 av;obtain rfl:sp=none:=y0.1;have g0:=y0.2;simp only at g0;have HY:=hid hy;have yF:=hid av;have f7:(k:Int)<(l.length:Int):=by omega
   clear y0 hy
   go_wp2_with
    (go_at_call 114
     refine(Nx _ _ _ _ _ _ hn HG.o).mono ?_;rintro e w' ⟨r,rfl,hr,rfl⟩;cases r)
   .have HI:Hid (0<=y/\y<=(n:Int)-1):=Classical.not_not.1 hr.f;clear hr;go_round
    case rel=>exact⟨k+1,by omega,hN.o.succ HY.o HI.o,by go_num⟩
    case measure=>simp[intOf];omega
   .have HI:Hid (¬(0<=y/\y<=(n:Int)-1)):=hr.t;clear hr;go_ret;exact⟨_,rfl,⟨λ_ h=>HI.o (h k y yF.o HY.o),λ_=>Int.natCast_nonneg _⟩,rfl⟩
  .have ek:k=l.length:=by omega
   subst ek;go_wp2
   go_ret;exact⟨-1,rfl,⟨λh=>absurd h (by decide),λh=>absurd hN.o h⟩,rfl⟩
def Dg (w:nq) (v:fu) (l:List Int) (g n c:Nat) (a:Option Addr) (h:ao w v l) (hn:1<=n/\n<=5) (hg:w.cell? ⟨g,2,none⟩=some (.slice a n c)):
 Calls ZP 113 #[v,.func (.func 114) #[] #[.pointer (some ⟨g,0,none⟩)]] w (dr w λr=>Tr r (¬m6 l n l.length)):=by
 go_enter ZF113,Tryz.ntmps113
 go_wp2_with
  (go_at_call 136
   refine(Df _ _ _ _ _ _ _ h hn hg).mono ?_;rintro e w1 ⟨r,rfl,hr,rfl⟩;have HR:=hid hr;clear hr)
 go_ret;refine dr.mk ?_;unfold Tr;simp only[zBP];exact HR.o
def rG (w:nq) (v vl:fu) (b:ab) (l:List Int) (hb:ar w v b) (hl:ao w vl l) (hp:1<=b.ptz.length/\b.ptz.length<=5) (Rj:fQ b):
 Calls ZP 60 #[v,vl] w (br w λs=>s=aK b l):=by
 have HB:=hid hb;have HI:=hid hl;have HPR:Hid (fQ b):=Rj;obtain⟨v2,v3,v4,rfl,⟨a2,c2,h2,f2⟩,⟨a3,c3,⟨rfl,_,_,_,_⟩,_⟩,⟨a4,c4,⟨rfl,_,_,_,_⟩,_⟩⟩:=hb;obtain⟨al,cl,te,fl⟩:=hl;have H2:Hid (bT w v2 b.ptz.length a2 c2/\_):=⟨h2,f2⟩
 have HL:Hid (bT w vl l.length al cl/\_):=⟨te,fl⟩
 obtain⟨rfl,l2,m2,n2,r2⟩:=h2;obtain⟨rfl,ll,ml,nl,rl⟩:=te;unfold maxLen at m2 ml;clear r2 f2 n2 rl fl nl Rj;by_cases hlen:(l.length:Int)=b.ah
 case neg=>
  have vp:=hid hlen;go_enter ZF60,Tryz.ntmps60
  go_wp2
  go_ret;exact br.mk (r:=2) (lB vp.o) ((Below.refl _ _).alloc (zAB _) _)
 case pos=>
 have bC:((l.length:Int)!=b.ah)=false:=by simp[hlen]
 have vp:=hid hlen
 have HO:=Dg (w.alloc (.cells #[.int .i64 b.ak,.int .i64 b.ah,.slice a2 b.ptz.length c2,.slice a3 b.aL.length c3,.slice a4 b.aX.length c4] 78)) _ l w.heap.size b.ptz.length c2 a2
  (HI.o.later (Kp.alloc w _)) hp (boxed (Below.refl _ _) 2)
 clear hlen;go_enter ZF60,Tryz.ntmps60
 go_wp2_with
  (go_at_call 113
   refine HO.mono ?_;rintro e w' ⟨r,rfl,hr,rfl⟩;cases r)
 rotate_left
 .have HR:=hr.t;go_ret;exact br.mk (r:=6) (m7 vp.o HR) ((Below.refl _ _).alloc (zAB _) _)
 have HRG:Hid (m6 l b.ptz.length l.length):=Classical.not_not.1 hr.f;clear HO hr;go_loopw [20,5,6] (λi u v w1=>∃k:Nat,k<=l.length/\i=.int .i64 k/\Hid (lV b l k)/\Hid (Below (w.heap.size+1) (w.alloc (.cells #[.int .i64 b.ak,.int .i64 b.ah,.slice a2 b.ptz.length c2,.slice a3 b.aL.length c3,.slice a4 b.aX.length c4] 78)) w1)) (λi _ _ _=>l.length-(intOf i).toNat)
 case atStart=>exact⟨0,zAM _,rfl,lV.zero _ _,Below.refl _ _⟩
 case round=>
  obtain⟨k,hk,rfl,hF,hB⟩:=hrel;have gg:=oV.Nw hB.o;by_cases av:k<l.length
  .obtain⟨⟨blk,off,sp⟩,x,rfl,hx,x0⟩:=HL.o.1.elem HL.o.2 av;obtain rfl:sp=none:=x0.1;obtain⟨xn,rfl⟩:=Int.eq_ofNat_of_zero_le (HRG.o k x av hx).1;have hxr:=(HRG.o k xn av hx).2;have Ll:xn<b.ptz.length:=by omega
   obtain⟨⟨pb,po,ps⟩,P,rfl,hP,_,_,_,_,_,vf,p5,Lv⟩:=H2.o.1.elem H2.o.2 Ll;obtain rfl:ps=none:=p5.1;have hf:=Lv;obtain⟨af,cf,⟨rfl,_,_,_,_⟩,_⟩:=Lv;have HX:=hid hx;have yF:=hid av;have HPX:Hid (b.ptz[(xn:Int).toNat]?=some P):=by rw[zEA];exact hP
   have G0:=λX:am wr=>X.cell gg.c0;have G1:=λX:am wr=>X.cell gg.c1;have G2:=λX:am wr=>X.cell gg.c2;have G3:=λX:am wr=>X.cell gg.c3;have G4:=λX:am wr=>X.cell gg.c4;have y0:=(x0.later (Kp.boxed hB.o)).2;have Y5:=λX:am wr=>X.cell (p5.later (Kp.boxed hB.o)).2;simp only[<-zBD]at y0 Y5;have f7:(k:Int)<(l.length:Int):=by omega
   have hx2:(xn:Int)<(b.ptz.length:Int):=by omega
   have hz:Hid (w.heap.size+1<=wr.heap.size):=by have:=hB.o.size;simp at this;exact(by omega:w.heap.size+1<=wr.heap.size)
   clear hx hP p5 gg;by_cases mF:(k:Int)∈P.fits
   .have tx:∀X:am wr,Calls ZP 76 #[.slice af P.fits.length cf,.int .i64 k] X.1 (λe jy=>e=.returned (.bool true)/\∃Y:am wr,jy=Y.1):=λX=>
     (lD _ _ _ k ((hf.later (Kp.boxed hB.o)).later X.kp)).mono λe w' ⟨r,h1,h2,h3⟩=>⟨by rw[h1,h2.2 mF],X.same h3⟩
    have TX:=hid mF;clear mF;by_cases qZ:0<k
    .obtain⟨b',z,Nm,TU,z0⟩:=HL.o.1.elem HL.o.2 (show k-1<l.length by omega);cases Nm;have Z0:=λX:am wr=>X.cell (z0.later (Kp.boxed hB.o)).2;simp only at Z0;have HZ:Hid (l[k-1]?=some z):=TU;have HK0:Hid (0<k):=qZ;have nS:wrap64 ((k:Int)-1)=((k-1:Nat):Int):=by unfold wrap64;omega
     have mi:(0:Int)<(k:Int):=by omega
     have mw:((k-1:Nat):Int)<(l.length:Int):=by omega
     clear z0 TU x0;by_cases tz:Apart b.aL z xn
     .have HAP:=hid tz
      have oW:∀X:am wr,Calls ZP 116 #[.agg #[.int .i64 b.ak,.int .i64 b.ah,.slice (some ⟨pb,po,none⟩) b.ptz.length c2,.slice a3 b.aL.length c3,.slice a4 b.aX.length c4],.int .i64 z,.int .i64 xn] X.1 (λe jy=>e=.returned (.bool true)/\∃Y:am wr,jy=Y.1):=λX=>
       (oZ _ _ _ _ _ ((HB.o.later (Kp.boxed hB.o)).later X.kp) HPR.o).mono λe w' ⟨⟨r,h1,h2⟩,h3⟩=>⟨by cases r with
         |true=>exact h1
         |false=>exact absurd tz h2.f,X.on h3⟩
      clear tz;go_wp2
      refine ap (by kernel_rfl) (by kernel_rfl) ?_;repeat(go_big_quiet_step (first|(go_at_call 76;exact tx _)|(go_at_call 116;exact oW _)))
      refine wpQuiet_nil ?_;rintro _ ⟨X,rfl⟩;go_wp2
      go_ret;exact br.mk (r:=3) (gM vp.o HRG.o λh=>(h k _ yF.o HX.o).Ux HK0.o z HZ.o HAP.o) (Below.boxed (hB.o.trans (X.2.mono hz.o)))
     .have HAP:=hid tz
      have oW:∀X:am wr,Calls ZP 116 #[.agg #[.int .i64 b.ak,.int .i64 b.ah,.slice (some ⟨pb,po,none⟩) b.ptz.length c2,.slice a3 b.aL.length c3,.slice a4 b.aX.length c4],.int .i64 z,.int .i64 xn] X.1 (λe jy=>e=.returned (.bool false)/\∃Y:am wr,jy=Y.1):=λX=>
       (oZ _ _ _ _ _ ((HB.o.later (Kp.boxed hB.o)).later X.kp) HPR.o).mono λe w' ⟨⟨r,h1,h2⟩,h3⟩=>⟨by cases r with
         |false=>exact h1
         |true=>exact absurd h2.t tz,X.on h3⟩
      clear tz;go_wp2
      refine ap (by kernel_rfl) (by kernel_rfl) ?_;repeat(go_big_quiet_step (first|(go_at_call 76;exact tx _)|(go_at_call 116;exact oW _)))
      refine wpQuiet_nil ?_;rintro _ ⟨X,rfl⟩;go_wp2
      go_round
      case rel=>exact⟨k+1,by omega,by go_num,hF.o.succ HX.o ⟨⟨P,HPX.o,TX.o⟩,λ_ y hy=>by rw[HZ.o]at hy;cases hy;exact HAP.o⟩,hB.o.trans (X.2.mono hz.o)⟩
      case measure=>simp[intOf];omega
    .have mi:¬(0:Int)<(k:Int):=by omega
     have HK0:Hid (¬0<k):=qZ;clear x0;go_wp2
     refine ap (by kernel_rfl) (by kernel_rfl) ?_;repeat(go_big_quiet_step (first|(go_at_call 76;exact tx _)))
     refine wpQuiet_nil ?_;rintro _ ⟨X,rfl⟩;go_wp2
     go_round
     case rel=>exact⟨k+1,by omega,by go_num,hF.o.succ HX.o ⟨⟨P,HPX.o,TX.o⟩,λh=>absurd h HK0.o⟩,hB.o.trans (X.2.mono hz.o)⟩
     case measure=>simp[intOf];omega
   .have tx:∀X:am wr,Calls ZP 76 #[.slice af P.fits.length cf,.int .i64 k] X.1 (λe jy=>e=.returned (.bool false)/\∃Y:am wr,jy=Y.1):=λX=>
     (lD _ _ _ k ((hf.later (Kp.boxed hB.o)).later X.kp)).mono λe w' ⟨r,h1,h2,h3⟩=>⟨by cases r with
       |false=>exact h1
       |true=>exact absurd h2.t mF,X.same h3⟩
    have TX:=hid mF;clear mF x0;go_wp2
    refine ap (by kernel_rfl) (by kernel_rfl) ?_;repeat(go_big_quiet_step (first|(go_at_call 76;exact tx _)))
    refine wpQuiet_nil ?_;rintro _ ⟨X,rfl⟩;go_wp2
    go_ret
    exact br.mk (r:=3) (gM vp.o HRG.o λh=>by
     obtain⟨P',Yh,hm⟩:=(h k _ yF.o HX.o).fits;rw[HPX.o]at Yh;cases Yh;exact TX.o hm) (Below.boxed (hB.o.trans (X.2.mono hz.o)))
  .clear gg;have ek:k=l.length:=by omega
   subst ek;go_wp2
   go_ret;exact br.mk (r:=0) (m8 ⟨vp.o,HRG.o,hF.o⟩) (Below.boxed hB.o)
def Dh (w:nq) (v:fu) (b:ab) (hb:ar w v b) (hp:1<=b.ptz.length/\b.ptz.length<=5) (Rj:fQ b):Calls ZP 186 #[v] w (br w λs=>s=dI b):=by
 have HB:=hid hb;have HPR:Hid (fQ b):=Rj;obtain⟨v2,v3,v4,rfl,⟨a2,c2,⟨rfl,_,_,_,_⟩,_⟩,⟨a3,c3,⟨rfl,_,_,_,_⟩,_⟩,⟨a4,c4,h4,f4⟩⟩:=hb;have H4:Hid (bT w v4 b.aX.length a4 c4/\_):=⟨h4,f4⟩
 obtain⟨rfl,l4,m4,n4,r4⟩:=h4;unfold maxLen at m4;clear r4 f4 n4 Rj;by_cases Gc:(4:Int)<(b.aX.length:Int)
 .go_enter ZF186,Tryz.ntmps186
  go_wp2
  go_ret;exact br.mk (r:=2) (by unfold dI;rw[zAG (by omega)]) ((Below.refl _ _).alloc (zAB _) _)
 have Yl:Hid (dI b=scan (dR b) b.aX.length):=Dc (by omega);go_enter ZF186,Tryz.ntmps186
 go_wp2
 go_loopw [15,4] (λi u w1=>∃k:Nat,k<=b.aX.length/\i=.int .i64 k/\Hid (scan (dR b) k=0)/\Hid (Below (w.heap.size+1) (w.alloc (.cells #[.int .i64 b.ak,.int .i64 b.ah,.slice a2 b.ptz.length c2,.slice a3 b.aL.length c3,.slice a4 b.aX.length c4] 78)) w1)) (λi _ _=>b.aX.length-(intOf i).toNat)
 case atStart=>exact⟨0,zAM _,rfl,rfl,Below.refl _ _⟩
 case round=>
  obtain⟨k,hk,rfl,hN,hB⟩:=hrel;obtain⟨s0,s1,s2,s3,s4⟩:=oV.Nw hB.o;by_cases av:k<b.aX.length
  .obtain⟨⟨blk,off,sp⟩,t,rfl,hx,⟨vf,x0,hf⟩,x1,x2⟩:=H4.o.1.elem H4.o.2 av;obtain rfl:sp=none:=x0.1;have Hi:=hf;obtain⟨af,cf,⟨rfl,_,_,_,_⟩,_⟩:=hf;have HX:=hid hx;have yF:=hid av;have nI:w.heap.size+1<=wr.heap.size:=by have:=hB.o.size;simp at this;omega
   have hz:=hid nI;have s0':∀o,(wr.alloc o).cell? ⟨w.heap.size,0,none⟩=some (.int .i64 b.ak):=λo=>(eR (by show w.heap.size<_;omega) o).trans s0;have s1':∀o,(wr.alloc o).cell? ⟨w.heap.size,1,none⟩=some (.int .i64 b.ah):=λo=>(eR (by show w.heap.size<_;omega) o).trans s1;have s2':∀o,(wr.alloc o).cell? ⟨w.heap.size,2,none⟩=some (.slice a2 b.ptz.length c2):=λo=>(eR (by show w.heap.size<_;omega) o).trans s2;have s3':∀o,(wr.alloc o).cell? ⟨w.heap.size,3,none⟩=some (.slice a3 b.aL.length c3):=λo=>(eR (by show w.heap.size<_;omega) o).trans s3;have s4':∀o,(wr.alloc o).cell? ⟨w.heap.size,4,none⟩=some (.slice (some ⟨blk,off,none⟩) b.aX.length c4):=λo=>(eR (by show w.heap.size<_;omega) o).trans s4;have y0:=(x0.later (Kp.boxed hB.o)).2;have y1:=(x1.later (Kp.boxed hB.o)).2;have y2:=(x2.later (Kp.boxed hB.o)).2;simp only[<-zBD]at y0 y1 y2;have f7:(k:Int)<(b.aX.length:Int):=by omega
   have hC:=rG (wr.alloc (.cells #[.slice af t.ptz.length cf,.int .i64 t.lo,.int .i64 t.hi] 56)) _ _ _ _ ((HB.o.later (Kp.boxed hB.o)).later (Kp.alloc wr _)) ((Hi.later (Kp.boxed hB.o)).later (Kp.alloc wr _)) hp HPR.o;obtain⟨mb,Pc⟩:=ex1 (aK b t.ptz);have HMB:=hid Pc;rw[Pc]at hC;clear Hi x0 x1 x2 hx Pc;by_cases I8:mb=0
   .subst I8;have Rk:Hid (cO b t.ptz):=bV.1 HMB.o
    go_wp2_with(first
     |(go_at_call 60
       refine hC.mono ?_;rintro e w1 ⟨⟨r,rfl,rfl⟩,bq⟩;have B1:Hid (Below (w.heap.size+1) _ w1):=hB.o.step nI bq;have p1:=fL bq 1;have p2:=fL bq 2;simp only[zCA,zBN,zBF]at p1 p2)
     |(go_at_call 99;refine(vg _ _ _ _ _ (by omega) _).mono ?_;rintro e w' ⟨r,rfl,hr,rfl⟩;cases r))
    .have HR:Hid (¬(0<=t.lo/\t.lo<=t.hi/\t.hi<=99)):=λh=>hr.f ⟨h.1,h.2.1,h.2.2,by omega⟩;go_ret;exact br.mk (r:=1) (Yl.o.trans (cH hN.o (Q9 HX.o Rk.o HR.o) (by decide) yF.o)).symm (Below.boxed (Below.alloc B1.o (by have:=B1.o.size;simpa using this) _))
    .have Yj:Hid (qw b t):=⟨Rk.o,hr.t.1,hr.t.2.1,hr.t.2.2.1⟩
     clear hr;go_round
     case rel=>exact⟨k+1,by omega,by go_num,nK hN.o (It HX.o Yj.o),(Below.alloc B1.o (by have:=B1.o.size;simpa using this) _:Below _ _ _)⟩
     case measure=>simp[intOf];omega
   .have TW:Hid (mb≠0):=I8
    go_wp2_with
     (go_at_call 60
      refine hC.mono ?_;rintro e w1 ⟨⟨r,rfl,rfl⟩,bq⟩;have B1:Hid (Below (w.heap.size+1) _ w1):=hB.o.step nI bq)
    go_ret;exact br.mk (Yl.o.trans (cH hN.o ((Re HX.o (by rw[HMB.o];exact TW.o)).trans HMB.o) TW.o yF.o)).symm (Below.boxed B1.o)
  .have ek:k=b.aX.length:=by omega
   subst ek;go_wp2
   go_ret;exact br.mk (r:=0) (Yl.o.trans hN.o).symm (Below.boxed hB.o)
def Ny (w:nq) (v vl:fu) (b:ab) (l:List Int) (hb:ar w v b) (hl:ao w vl l) (hp:1<=b.ptz.length/\b.ptz.length<=5) (Rj:fQ b) (j6:cO b l):
 Calls ZP 60 #[v,vl] w (br w λs=>s=0):=
 (rG w v vl b l hb hl hp Rj).mono λ_ _ ⟨⟨r,h1,h2⟩,h3⟩=>⟨⟨r,h1,h2.trans (bV.2 j6)⟩,h3⟩
structure jh (w:nq):Prop where
 c0:w.cell? ⟨0,0,none⟩=some (.func (.func 183) #[] #[])
 c1:w.cell? ⟨0,1,none⟩=some (.func (.func 184) #[] #[])
 c2:w.cell? ⟨0,2,none⟩=some (.func (.func 185) #[] #[])
 c3:w.cell? ⟨0,3,none⟩=some (.func (.func 186) #[] #[])
def jh.on {w:nq} (h:jh w) (X:am w):jh X.1:=⟨X.cell h.c0,X.cell h.c1,X.cell h.c2,X.cell h.c3⟩
def jh.later {w w':nq} (h:jh w) (k:Below w.heap.size w w'):jh w':=h.on ⟨w',k⟩
section
variable (w:nq)
def zfV:(Instr.index 144 (.agg #[.func (.func 183) #[] #[],.func (.func 184) #[] #[],.func (.func 185) #[] #[],.func (.func 186) #[] #[]]) (.int .i64 0)).run ZP w=.ok (.func (.func 183) #[] #[]) w:=by
 have u:ZP.underlying 144=some (.array 4 84):=by rw[Tz.under];exact Tryz.underlying144
 have a3:=Tryz.isAgg84;have z3:=Tryz.sizeOf84;simp[Instr.index,run_underlying u,asIntOf,part,go_sem,a3,z3]
def zfW:(Instr.index 144 (.agg #[.func (.func 183) #[] #[],.func (.func 184) #[] #[],.func (.func 185) #[] #[],.func (.func 186) #[] #[]]) (.int .i64 1)).run ZP w=.ok (.func (.func 184) #[] #[]) w:=by
 have u:ZP.underlying 144=some (.array 4 84):=by rw[Tz.under];exact Tryz.underlying144
 have a3:=Tryz.isAgg84;have z3:=Tryz.sizeOf84;simp[Instr.index,run_underlying u,asIntOf,part,go_sem,a3,z3]
def zfX:(Instr.index 144 (.agg #[.func (.func 183) #[] #[],.func (.func 184) #[] #[],.func (.func 185) #[] #[],.func (.func 186) #[] #[]]) (.int .i64 2)).run ZP w=.ok (.func (.func 185) #[] #[]) w:=by
 have u:ZP.underlying 144=some (.array 4 84):=by rw[Tz.under];exact Tryz.underlying144
 have a3:=Tryz.isAgg84;have z3:=Tryz.sizeOf84;simp[Instr.index,run_underlying u,asIntOf,part,go_sem,a3,z3]
def zfY:(Instr.index 144 (.agg #[.func (.func 183) #[] #[],.func (.func 184) #[] #[],.func (.func 185) #[] #[],.func (.func 186) #[] #[]]) (.int .i64 3)).run ZP w=.ok (.func (.func 186) #[] #[]) w:=by
 have u:ZP.underlying 144=some (.array 4 84):=by rw[Tz.under];exact Tryz.underlying144
 have a3:=Tryz.isAgg84;have z3:=Tryz.sizeOf84;simp[Instr.index,run_underlying u,asIntOf,part,go_sem,a3,z3]
end
section
variable {b:ab}
def Gd (h:cw b≠0):aU b=cw b:=by
 have h2:¬((1<=b.ak/\b.ak<=99)/\1<=b.ah/\b.ah<=4):=λk=>h (dU.2 k);rw[ke h2];unfold aU;rw[zAG h2]
def Ge (h0:cw b=0) (h:bU b.ah b.ptz≠0):aU b=bU b.ah b.ptz:=by
 unfold aU;rw[zAF (dU.1 h0),zAG h]
def Gf (h0:cw b=0) (h1:bU b.ah b.ptz=0) (h:cI b.ptz.length b.aL≠0):aU b=cI b.ptz.length b.aL:=by
 unfold aU;rw[zAF (dU.1 h0),zAF h1,zAG h]
def sH (h0:cw b=0) (h1:bU b.ah b.ptz=0) (h2:cI b.ptz.length b.aL=0):aU b=dI b:=by
 unfold aU;rw[zAF (dU.1 h0),zAF h1,zAF h2]
end
def Far (b:ab) (k:Int):Prop:=k=0\/(k=1/\cw b=0)\/(k=2/\cw b=0/\bU b.ah b.ptz=0)\/(k=3/\cw b=0/\bU b.ah b.ptz=0/\cI b.ptz.length b.aL=0)\/(k=4/\aU b=0)
def iJ (w:nq) (v:fu) (b:ab) (hb:ar w v b) (hs:d9 b) (hc:jh w):Calls ZP 56 #[v] w (br w λs=>s=aU b):=by
 have HB:=hid hb;have HS:Hid (d9 b):=hs;obtain⟨v2,v3,v4,rfl,⟨a2,c2,⟨rfl,_,_,_,_⟩,_⟩,⟨a3,c3,⟨rfl,_,_,_,_⟩,_⟩,⟨a4,c4,⟨rfl,_,_,_,_⟩,_⟩⟩:=hb;obtain⟨k0,k1,k2,k3⟩:=hc.later ((Below.refl _ _).alloc (zAB _) (.cells #[.int .i64 b.ak,.int .i64 b.ah,.slice a2 b.ptz.length c2,.slice a3 b.aL.length c3,.slice a4 b.aX.length c4] 26));clear hs hc;go_enter ZF56,Tryz.ntmps56
 go_wp2
 go_loopw [7,4,5] (λi u v w1=>∃k:Int,Hid (Far b k)/\i=.int .i64 k/\Hid (Below (w.heap.size+1) (w.alloc (.cells #[.int .i64 b.ak,.int .i64 b.ah,.slice a2 b.ptz.length c2,.slice a3 b.aL.length c3,.slice a4 b.aX.length c4] 26)) w1)) (λi _ _ _=>4-(intOf i).toNat)
 case atStart=>exact⟨0,(.inl rfl:_\/_),rfl,Below.refl _ _⟩
 case round=>
  obtain⟨k,hk,rfl,hB⟩:=hrel;clear k0 k1 k2 k3;obtain⟨s0,s1,s2,s3,s4⟩:=oV.Nw hB.o;have bq:=HB.o.later (Kp.boxed hB.o);have hs:=hB.o.size;simp at hs;rcases hk.o with rfl|⟨rfl,ho⟩|⟨rfl,ho,hp⟩|⟨rfl,ho,hp,hq⟩|⟨rfl,hz⟩
  .have ix:=zfV wr;clear hk;go_wp2_with(go_at_call 183;refine(F9 _ _ _ bq).mono ?_;rintro e w1 ⟨⟨r,rfl,hr⟩,eQ⟩;have HR:Hid (r=cw b):=hr;clear hr;by_cases h0:r=0)
   .go_round
    case rel=>exact⟨1,(.inr (.inl ⟨rfl,by rw[<-HR.o];exact h0⟩):Far b 1),rfl,hB.o.trans (eQ.mono hs)⟩
    case measure=>simp[intOf]
   .go_ret;exact br.mk (HR.o.trans (Gd (by rw[<-HR.o];exact h0)).symm) (Below.boxed (hB.o.trans (eQ.mono hs)))
  .have ix:=zfW wr;have HO:=hid ho;have q7:=(dU.1 ho).2;clear hk ho;go_wp2_with(go_at_call 184;refine(Ga _ _ _ bq HS.o q7).mono ?_;rintro e w1 ⟨⟨r,rfl,hr⟩,eQ⟩;have HR:Hid (r=bU b.ah b.ptz):=hr;clear hr;by_cases h0:r=0)
   .go_round
    case rel=>exact⟨2,(.inr (.inr (.inl ⟨rfl,HO.o,by rw[<-HR.o];exact h0⟩)):Far b 2),rfl,hB.o.trans (eQ.mono hs)⟩
    case measure=>simp[intOf]
   .go_ret;exact br.mk (HR.o.trans (Ge HO.o (by rw[<-HR.o];exact h0)).symm) (Below.boxed (hB.o.trans (eQ.mono hs)))
  .have ix:=zfX wr;have HO:Hid (cw b=0/\bU b.ah b.ptz=0):=⟨ho,hp⟩
   have Ri:=(lC.1 hp).many;clear hk ho hp;go_wp2_with(go_at_call 185;refine(Gb _ _ _ bq Ri).mono ?_;rintro e w1 ⟨⟨r,rfl,hr⟩,eQ⟩;have HR:Hid (r=cI b.ptz.length b.aL):=hr;clear hr;by_cases h0:r=0)
   .go_round
    case rel=>exact⟨3,(.inr (.inr (.inr (.inl ⟨rfl,HO.o.1,HO.o.2,by rw[<-HR.o];exact h0⟩))):Far b 3),rfl,hB.o.trans (eQ.mono hs)⟩
    case measure=>simp[intOf]
   .go_ret;exact br.mk (HR.o.trans (Gf HO.o.1 HO.o.2 (by rw[<-HR.o];exact h0)).symm) (Below.boxed (hB.o.trans (eQ.mono hs)))
  .have ix:=zfY wr;have HO:Hid (cw b=0/\bU b.ah b.ptz=0/\cI b.ptz.length b.aL=0):=⟨ho,hp,hq⟩
   have Ri:=(lC.1 hp).many;have Rj:=oX.1 hq;clear hk ho hp hq;go_wp2_with(go_at_call 186;refine(Dh _ _ _ bq Ri Rj).mono ?_;rintro e w1 ⟨⟨r,rfl,hr⟩,eQ⟩;have HR:Hid (r=dI b):=hr;clear hr;by_cases h0:r=0)
   .go_round
    case rel=>exact⟨4,(.inr (.inr (.inr (.inr ⟨rfl,(sH HO.o.1 HO.o.2.1 HO.o.2.2).trans (by rw[<-HR.o];exact h0)⟩))):Far b 4),rfl,hB.o.trans (eQ.mono hs)⟩
    case measure=>simp[intOf]
   .go_ret;exact br.mk (HR.o.trans (sH HO.o.1 HO.o.2.1 HO.o.2.2).symm) (Below.boxed (hB.o.trans (eQ.mono hs)))
  .have HZ:=hid hz;clear hk hz;go_wp2
   go_ret;exact br.mk (r:=0) HZ.o.symm (Below.boxed hB.o)
def Di {b:ab} (h:Valid b):d9 b:=λj x hj hx=>by
 have:=(h.ptz.all j x hj hx).1.name.2.1;omega
def jz (w:nq) (v:fu) (b:ab) (hb:ar w v b) (hv:Valid b) (hc:jh w):Calls ZP 56 #[v] w (br w λs=>s=0):=
 (iJ w v b hb (Di hv) hc).mono λ_ _ ⟨⟨r,h1,h2⟩,h3⟩=>⟨⟨r,h1,h2.trans (bd.2 hv)⟩,h3⟩
end Go.Proofs.Cz
