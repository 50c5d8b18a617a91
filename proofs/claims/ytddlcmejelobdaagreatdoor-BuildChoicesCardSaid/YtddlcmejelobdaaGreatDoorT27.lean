/- A part. Conditions: none. -/
import Derived.Test.YtddlcmejelobdaaGreatDoorT26
import Derived.Laws.IdiomStrings
set_option linter.all false
set_option maxHeartbeats 8000000
set_option maxRecDepth 100000
namespace Go.Proofs.Cz
open Go.RowKit
def Gv (w:nq) (s:ByteArray):∃cap w',(convert 9 214 (.string s)).run ZP w=.ok (.slice (some ⟨w.heap.size,0,none⟩) s.size cap) w'/\Below w.heap.size w w'/\∀j (hj:j<s.size),w'.cell? ⟨w.heap.size,j,none⟩=some (.int .u8 s[j].toNat):=by
 have u9:ZP.underlying 9=some .string:=by rw[Tz.under];exact Tryz.underlying9
 have u77:ZP.underlying 214=some (.slice 5):=by rw[Tz.under];exact Tryz.underlying214
 have u5:ZP.underlying 5=some (.int .u8):=by rw[Tz.under];exact Tryz.underlying5
 refine⟨_,_,run_bytes_of_string w 9 214 5 s u9 u77 u5,?_,?_⟩
 .exact Below.alloc (Below.drewN (Below.refl _ _) 1) (zAA _) _
 .intro j hj;exact(World.cell?_alloc_mark _ _ _ _ _).trans (bytesRow_at s _ j hj)
end Go.Proofs.Cz
namespace Go.RowKit
def Below.step {B:Nat} {a w w1:nq} {o:Obj} (h:Below B a w) (hs:B<=w.heap.size) (k:Below (w.alloc o).heap.size (w.alloc o) w1):Below B a w1:=
 (Below.alloc h hs o).trans (k.mono (by simp;omega))
end Go.RowKit
namespace Go.Proofs.Cz
open Go.RowKit
variable {a:Option Addr} {cap k n:Nat} {w:nq}
def f7 {w1:nq} {cs:Array fu} {t:Nat} (h:Below (w.alloc (.cells cs t)).heap.size (w.alloc (.cells cs t)) w1) (k:Nat):w1.cell? ⟨w.heap.size,k,none⟩=cs[k]?:=boxed h.rx k
def bi.take {v:fu} (h:bi w v n a cap) (hk:k<=n):bi w (.slice a k cap) k a cap:=
 ⟨rfl,zAM hk h.le,h.IU,h.nil,h.row⟩
def ff.take {l:List Part} (h:ff w (.slice a n cap) l) (hk:k<=l.length):ff w (.slice a k cap) (l.take k):=by
 obtain⟨a',kO,h1,h2⟩:=h;obtain⟨rfl,-,rfl⟩:a=a'/\_/\cap=kO:=by simpa using h1.eq
 have hl:(l.take k).length=k:=by simp;omega
 refine⟨a,cap,by rw[hl];exact h1.take hk,λb e j x hj=>h2 b e j x ?_⟩;have oB:j<k:=by have:=(zAO.1 hj).1;omega
 rw[zDF]at hj;simpa [oB]using hj
def fL.take {l:List (Int×Int)} (h:fL w (.slice a n cap) l) (hk:k<=l.length):fL w (.slice a k cap) (l.take k):=by
 obtain⟨a',kO,h1,h2⟩:=h;obtain⟨rfl,-,rfl⟩:a=a'/\_/\cap=kO:=by simpa using h1.eq
 have hl:(l.take k).length=k:=by simp;omega
 refine⟨a,cap,by rw[hl];exact h1.take hk,λb e j x hj=>h2 b e j x ?_⟩;have oB:j<k:=by have:=(zAO.1 hj).1;omega
 rw[zDF]at hj;simpa [oB]using hj
end Go.Proofs.Cz
namespace Go.Proofs.Cz
open Go.RowKit
def AJ (w:nq) (s:ByteArray) (hs:s.size<=maxLen):Calls ZP 187 #[.string s] w (dF w λr=>Tr r (mt s)):=by
 unfold maxLen at hs;obtain⟨cap,w1,zbv,hb,hc⟩:=Gv w s;have HB:=hid hb;have HC:=hid hc;go_enter ZF187,Tryz.ntmps187
 go_wp2
 go_loop [8,3,4] (λi u v=>∃k:Nat,k<=s.size/\Hid (pY s k)/\i=.int .i64 k) (λi _ _=>s.size-(intOf i).toNat)
 case atStart=>exact⟨0,zAJ _,(λj hj h=>absurd h (zDK j):pY s 0),rfl⟩
 case round=>
  obtain⟨k,hk,hN,rfl⟩:=hrel;by_cases au:k<s.size
  .have y0:=HC.o k au;have kE:(k:Int)<(s.size:Int):=by omega
   by_cases hl:wd (s[k].toNat)
   .have HL:=hid hl;obtain⟨a1,a2⟩:=hl;go_wp2
    go_round
    case rel=>exact⟨k+1,by omega,hN.o.succ au (.inl HL.o),by go_num⟩
    case measure=>simp[intOf];omega
   .have HL:=hid hl;by_cases hd:0<k/\Du (s[k].toNat)
    .have HD:=hid hd;obtain⟨qA,a1,a2⟩:=hd;have lP:(0:Int)<(k:Int):=by omega
     have a3:¬(97:Int)<=s[k].toNat:=by omega
     go_wp2
     go_round
     case rel=>exact⟨k+1,by omega,hN.o.succ au (.inr HD.o),by go_num⟩
     case measure=>simp[intOf];omega
    .have RN:Hid (¬mt s):=λh=>by
      rcases h.2.2 k au au with h1|h1
      .exact hl h1
      .exact hd h1
     by_cases b1:(97:Int)<=s[k].toNat
     .have b2:¬(s[k].toNat:Int)<=122:=λh=>hl ⟨b1,h⟩;by_cases qA:0<k
      .have lP:(0:Int)<(k:Int):=by omega
       have b4:(48:Int)<=s[k].toNat:=by omega
       have b5:¬(s[k].toNat:Int)<=57:=by omega
       go_wp2
       go_ret;exact dF.mk (r:=false) ⟨(λh=>by cases h),λh=>absurd h RN.o⟩ HB.o
      .have lP:¬(0:Int)<(k:Int):=by omega
       go_wp2
       go_ret;exact dF.mk (r:=false) ⟨(λh=>by cases h),λh=>absurd h RN.o⟩ HB.o
     .by_cases qA:0<k
      .have lP:(0:Int)<(k:Int):=by omega
       by_cases b4:(48:Int)<=s[k].toNat
       .have b5:¬(s[k].toNat:Int)<=57:=λh=>hd ⟨qA,b4,h⟩;go_wp2
        go_ret;exact dF.mk (r:=false) ⟨(λh=>by cases h),λh=>absurd h RN.o⟩ HB.o
       .clear hl hd zbv;go_wp2
        go_ret;exact dF.mk (r:=false) ⟨(λh=>by cases h),λh=>absurd h RN.o⟩ HB.o
      .have lP:¬(0:Int)<(k:Int):=by omega
       go_wp2
       go_ret;exact dF.mk (r:=false) ⟨(λh=>by cases h),λh=>absurd h RN.o⟩ HB.o
  .have ek:k=s.size:=by omega
   subst ek;go_wp2_with(go_at_call 115;refine(jU _ _ _ _).mono ?_;rintro e w' ⟨r,rfl,hr,rfl⟩)
   go_ret;exact dF.mk (r:=r) ⟨λh=>by have:=hr.1 h;exact⟨by omega,by omega,hN.o⟩,λh=>hr.2 ⟨by have:=h.1;omega,by have:=h.2.1;omega⟩⟩ HB.o
def xR (w:nq) (g:Nat) (n1 nm:ByteArray) (a b c d:Int) (vf:fu) (af:Option Addr) (lf cf:Nat) (xP:vf=.slice af lf cf) (hg:w.cell? ⟨g,0,none⟩=some (.string nm)):
 Calls ZP 189 #[.agg #[.string n1,.int .i64 a,.int .i64 b,.int .i64 c,.int .i64 d,vf],.pointer (some ⟨g,0,none⟩)] w (dF w λr=>Tr r (n1=nm)):=by
 subst xP;have Fb:=(Kp.alloc w (.cells #[.string n1,.int .i64 a,.int .i64 b,.int .i64 c,.int .i64 d,.slice af lf cf] 37))
 have LY:(w.alloc (.cells #[.string n1,.int .i64 a,.int .i64 b,.int .i64 c,.int .i64 d,.slice af lf cf] 37)).cell? ⟨g,0,none⟩=some (.string nm):=
  (ak.cell ⟨_,(Below.refl _ _).alloc (zAA _) _⟩ hg:_)
 skip;by_cases e:n1=nm
 .subst e;have hd:(n1.toList==n1.toList)=true:=by simp
  go_enter ZF189,Tryz.ntmps189
  go_wp2
  go_ret;exact dF.mk (r:=true) (by unfold Tr;simp) ((Below.refl _ _).alloc (zAA _) _)
 .have hd:(n1.toList==nm.toList)=false:=by
   cases hh:(n1.toList==nm.toList)with
   |false=>rfl
   |true=>exact absurd (IV hh) e
  have HE:=hid e;go_enter ZF189,Tryz.ntmps189
  go_wp2
  go_ret;exact dF.mk (r:=false) ⟨(λh=>by cases h),λh=>absurd h HE.o⟩ ((Below.refl _ _).alloc (zAA _) _)
def AK (w:nq) (v:fu) (l:List Part) (g:Nat) (nm:ByteArray) (h:ff w v l) (hg:w.cell? ⟨g,0,none⟩=some (.string nm)):
 Calls ZP 190 #[v,.func (.func 189) #[] #[.pointer (some ⟨g,0,none⟩)]] w (bg w λr=>r=-1/\iK l nm l.length\/0<=r/\∃i y,i<l.length/\l[i]?=some y/\y.name=nm):=by
 obtain⟨a,c,h1,h2⟩:=h;have H:Hid (bi w v l.length a c/\_):=⟨h1,h2⟩
 have HG:=hid hg;obtain⟨rfl,l1,m1,n1,r1⟩:=h1;unfold maxLen at m1;go_enter ZF190,Tryz.ntmps190
 go_wp2
 go_loopw [8,5] (λi j w1=>∃k:Nat,k<=l.length/\Hid (iK l nm k)/\i=.int .i64 k/\Hid (Below w.heap.size w w1)) (λi _ _=>l.length-(intOf i).toNat)
 case atStart=>exact⟨0,zAJ _,iK.zero _ _,rfl,Below.refl _ _⟩
 case round=>
  obtain⟨k,hk,hN,rfl,hB⟩:=hrel;by_cases au:k<l.length
  .obtain⟨⟨blk,off,sp⟩,x,rfl,hx,x0,x1,x2,x3,x4,vf,x5,x6⟩:=H.o.1.elem H.o.2 au;obtain rfl:sp=none:=x0.1;obtain⟨af,cf,hf,_⟩:=x6;obtain⟨rfl,lf,mf,_,_⟩:=hf;have y0:=(x0.later (Kp.of hB.o)).2;have y1:=(x1.later (Kp.of hB.o)).2;have y2:=(x2.later (Kp.of hB.o)).2;have y3:=(x3.later (Kp.of hB.o)).2;have y4:=(x4.later (Kp.of hB.o)).2;have y5:=(x5.later (Kp.of hB.o)).2;simp only[<-zBD]at y0 y1 y2 y3 y4 y5;have kE:(k:Int)<(l.length:Int):=by omega
   have hgr:=ak.cell ⟨wr,hB.o⟩ HG.o;have HX:=hid hx
   go_wp2_with
    (go_at_call 189
     refine(xR _ _ _ _ _ _ _ _ _ _ _ _ rfl hgr).mono ?_;rintro e w1 ⟨⟨r,rfl,hr⟩,bJ⟩;cases r)
   .go_round
    case rel=>exact⟨k+1,by omega,hN.o.succ HX.o hr.f,by go_num,hB.o.trans (bJ.mono hB.o.size)⟩
    case measure=>simp[intOf];omega
   .go_ret;exact bg.mk (r:=(k:Int)) (.inr ⟨by omega,k,x,au,HX.o,hr.t⟩) (hB.o.trans (bJ.mono hB.o.size))
  .have ek:k=l.length:=by omega
   subst ek;go_wp2
   go_ret;exact bg.mk (r:=-1) (.inl ⟨rfl,hN.o⟩) hB.o
def AL (w:nq) (v:fu) (l:List Part) (g:Nat) (nm:ByteArray) (h:ff w v l) (hg:w.cell? ⟨g,0,none⟩=some (.string nm)):
 Calls ZP 188 #[v,.func (.func 189) #[] #[.pointer (some ⟨g,0,none⟩)]] w (dF w λr=>Tr r (∃i y,i<l.length/\l[i]?=some y/\y.name=nm)):=by
 go_enter ZF188,Tryz.ntmps188
 go_wp2_with
  (go_at_call 190
   refine(AK _ _ _ _ _ h hg).mono ?_;rintro e w1 ⟨⟨r,rfl,hr⟩,bJ⟩;have HR:=hid hr;skip)
 go_ret;refine dF.mk ?_ bJ;unfold Tr;rcases HR.o with⟨rfl,h⟩|⟨h0,h⟩
 .simp only[zCF];exact⟨λh1=>by omega,λ⟨i,y,hi,hy,e⟩=>absurd e (h i y hi hy)⟩
 .exact⟨λ_=>h,λ_=>by simp;omega⟩
def dK.eq {w:nq} {P:Bool->Prop} {v:fu} {r:Bool} (h:P r) (e:v=.bool r):dK w P (.returned v) w:=by subst e;exact .mk h
def KG (w:nq) (v:fu) (l:List Int) (x:Int) (h:ah w v l):Calls ZP 121 #[v,.int .i64 x] w (λe w'=>∃r,e=.returned (.int .i64 r)/\(0<=r↔x∈l)/\w'=w):=by
 obtain⟨a,c,h1,h2⟩:=h;have H:Hid (bi w v l.length a c/\_):=⟨h1,h2⟩
 obtain⟨rfl,l1,m1,n1,r1⟩:=h1;unfold maxLen at m1;go_enter ZF121,Tryz.ntmps121
 go_wp2
 go_loop [8,5] (λi j=>∃k:Nat,k<=l.length/\Hid (jT l x k)/\i=.int .i64 k) (λi _=>l.length-(intOf i).toNat)
 case atStart=>exact⟨0,zAJ _,jT.zero l x,rfl⟩
 case round=>
  obtain⟨k,hk,hN,rfl⟩:=hrel;by_cases au:k<l.length
  .obtain⟨⟨blk,off,sp⟩,y,rfl,hy,y0⟩:=H.o.1.elem H.o.2 au;obtain rfl:sp=none:=y0.1;have g0:=y0.2;simp only at g0;have HY:=hid hy;have kE:(k:Int)<(l.length:Int):=by omega
   by_cases e:x=y
   .subst e;go_wp2
    go_ret;exact⟨k,rfl,⟨λ_=>zAT HY.o,λ_=>by omega⟩,rfl⟩
   .have e':Hid (y≠x):=λh=>e h.symm;go_wp2
    go_round
    case rel=>exact⟨k+1,by omega,hN.o.succ HY.o e'.out,by go_num⟩
    case measure=>simp[intOf];omega
  .have HN:Hid (x∉l):=(by have e:k=l.length:=by omega
                          subst e;exact hN.o.all)
   go_wp2
   go_ret;exact⟨-1,rfl,⟨λh=>by omega,λh=>absurd h HN.o⟩,rfl⟩
def im (w:nq) (v:fu) (l:List Int) (x:Int) (h:ah w v l):Calls ZP 76 #[v,.int .i64 x] w (dK w λr=>Tr r (x∈l)):=by
 go_enter ZF76,Tryz.ntmps76
 go_wp2_with
  (go_at_call 121
   refine(KG _ _ _ x h).mono ?_;rintro e w1 ⟨r,rfl,hr,rfl⟩;by_cases h0:0<=r)
 .have hx:=hid (hr.1 h0);go_ret;exact dK.eq (r:=true) (Tr.yes hx.o) (by simp[hx.o])
 .have hx:Hid (¬x∈l):=λh=>by have:=hr.2 h;omega
  go_ret;exact dK.eq (r:=false) (Tr.no hx.o) (by simp[hx.o])
def xS (w:nq) (v:fu) (l:List (Int×Int)) (p q:Int) (h:fL w v l):
 Calls ZP 158 #[v,.agg #[.int .i64 p,.int .i64 q]] w (bg w λr=>0<=r↔(p,q)∈l):=by
 obtain⟨a,c,h1,h2⟩:=h;have H:Hid (bi w v l.length a c/\_):=⟨h1,h2⟩
 obtain⟨rfl,l1,m1,n1,r1⟩:=h1;unfold maxLen at m1;go_enter ZF158,Tryz.ntmps158
 go_wp2
 go_loopw [8,5] (λi j w1=>∃k:Nat,k<=l.length/\Hid (jl l (p,q) k)/\i=.int .i64 k/\∃n,w1=(w.alloc (.cells #[.int .i64 p,.int .i64 q] 53)).drewN n) (λi _ _=>l.length-(intOf i).toNat)
 case atStart=>exact⟨0,zAJ _,jl.zero l _,rfl,0,rfl⟩
 case round=>
  obtain⟨k,hk,hN,rfl,n0,rfl⟩:=hrel;by_cases au:k<l.length
  .obtain⟨⟨blk,off,sp⟩,⟨ya,yb⟩,rfl,hy,y0,y1⟩:=H.o.1.elem H.o.2 au;obtain rfl:sp=none:=y0.1;have g0:=(y0.later (Kp.alloc w (.cells #[.int .i64 p,.int .i64 q] 53))).2;have g1:=(y1.later (Kp.alloc w (.cells #[.int .i64 p,.int .i64 q] 53))).2;simp only[<-zBD]at g0 g1;have HY:=hid hy;have kE:(k:Int)<(l.length:Int):=by omega
   by_cases e1:p=ya
   .subst e1;by_cases e2:q=yb
    .subst e2;go_wp2
     go_quiet (fail)
     go_wp2
     go_ret;exact bg.mk (r:=k) ⟨λ_=>zAT HY.o,λ_=>by omega⟩ (Below.drewN (Below.drewN (Below.alloc (Below.refl _ _) (zAA _) _) _) _)
    .have bu:Hid ((p,yb)≠(p,q)):=(λh=>e2 (by cases h;rfl):(p,yb)≠(p,q))
     go_wp2
     go_quiet (fail)
     go_wp2
     go_round
     case rel=>exact⟨k+1,by omega,hN.o.succ HY.o bu.o,by go_num,_,rfl⟩
     case measure=>simp[intOf];omega
   .have bu:Hid ((ya,yb)≠(p,q)):=(λh=>e1 (by cases h;rfl):(ya,yb)≠(p,q))
    go_wp2
    go_quiet (fail)
    go_wp2
    go_round
    case rel=>exact⟨k+1,by omega,hN.o.succ HY.o bu.o,by go_num,_,rfl⟩
    case measure=>simp[intOf];omega
  .have HN:Hid ((p,q)∉l):=(by
    have e:k=l.length:=by omega
    subst e;intro hm;obtain⟨j,hj,oB⟩:=zBX hm;exact hN.o j _ hj (zAI hj) oB)
   go_wp2
   go_ret;exact bg.mk (r:=-1) ⟨λh=>by omega,λh=>absurd h HN.o⟩ (Below.drewN (Below.alloc (Below.refl _ _) (zAA _) _) _)
def d9 (w:nq) (v:fu) (l:List (Int×Int)) (p q:Int) (h:fL w v l):
 Calls ZP 137 #[v,.agg #[.int .i64 p,.int .i64 q]] w (dF w λr=>Tr r ((p,q)∈l)):=by
 go_enter ZF137,Tryz.ntmps137
 have h':=h.later (Kp.alloc w (.cells #[.int .i64 p,.int .i64 q] 53))
 go_wp2_with
  (go_at_call 158
   refine(xS _ _ _ p q h').mono ?_;rintro e w1 ⟨⟨r,rfl,hr⟩,bJ⟩;by_cases h0:0<=r)
 .have hx:=hid (hr.1 h0);go_ret;exact dF.eq (r:=true) (Tr.yes hx.o) (Below.step (Below.refl _ _) (zAA _) bJ) (by simp[hx.o])
 .have hx:Hid (¬(p,q)∈l):=λh=>by have:=hr.2 h;omega
  go_ret;exact dF.eq (r:=false) (Tr.no hx.o) (Below.step (Below.refl _ _) (zAA _) bJ) (by simp[hx.o])
open Classical in
noncomputable def cI (b:aj):Int:=if(1<=b.aB/\b.aB<=99)/\1<=b.aq/\b.aq<=4 then 0 else 1
def ee {b:aj}:cI b=0↔(1<=b.aB/\b.aB<=99)/\1<=b.aq/\b.aq<=4:=by
 unfold cI;split
 .rename_i h;exact⟨λ_=>h,λ_=>rfl⟩
 .rename_i h;exact⟨λh1=>absurd h1 (by decide),λh2=>absurd h2 h⟩
def kS {b:aj} (h:¬((1<=b.aB/\b.aB<=99)/\1<=b.aq/\b.aq<=4)):cI b=1:=by unfold cI;rw[zAG h]
def Gw (w:nq) (v:fu) (b:aj) (hb:az w v b):Calls ZP 183 #[v] w (bg w λr=>r=cI b):=by
 obtain⟨v2,v3,v4,rfl,⟨a2,c2,⟨rfl,_,_,_,_⟩,_⟩,⟨a3,c3,⟨rfl,_,_,_,_⟩,_⟩,⟨a4,c4,⟨rfl,_,_,_,_⟩,_⟩⟩:=hb;go_enter ZF183,Tryz.ntmps183
 go_wp2_with(first
  |(go_at_call 115;(with_reducible refine(jU _ b.aB _ _).mono ?_);rintro e w' ⟨r,rfl,uz,rfl⟩;cases r)
  |(go_at_call 115;(with_reducible refine(jU _ b.aq _ _).mono ?_);rintro e w' ⟨r,rfl,uA,rfl⟩;cases r))
 .go_ret;exact bg.mk (r:=1) (kS λh=>uz.f h.1).symm ((Below.refl _ _).alloc (zAA _) _)
 .go_ret;exact bg.mk (r:=1) (kS λh=>uA.f h.2).symm ((Below.refl _ _).alloc (zAA _) _)
 .go_ret;exact bg.mk (r:=0) (ee.2 ⟨uz.t,uA.t⟩).symm ((Below.refl _ _).alloc (zAA _) _)
def Gx (w:nq) (v:fu) (b:aj) (hb:az w v b) (hs:gU b) (tU:1<=b.aq/\b.aq<=4):Calls ZP 184 #[v] w (bg w λr=>r=bB b.aq b.ptz):=by
 obtain⟨v2,v3,v4,rfl,Od,h3,h4⟩:=hb;have HPA:=hid Od;have HS:=hid hs;obtain⟨a2,c2,h2,f2⟩:=Od;have H2:Hid (bi w v2 b.ptz.length a2 c2/\_):=⟨h2,f2⟩
 obtain⟨rfl,l2,m2,n2,r2⟩:=h2;obtain⟨a3,c3,⟨rfl,_,_,_,_⟩,_⟩:=h3;obtain⟨a4,c4,⟨rfl,_,_,_,_⟩,_⟩:=h4;unfold maxLen at m2;go_enter ZF184,Tryz.ntmps184
 go_wp2_with(go_at_call 115;refine(jU _ _ _ _).mono ?_;rintro e w' ⟨r,rfl,hr,rfl⟩;cases r)
 .go_ret;exact bg.mk (r:=2) (by unfold bB;rw[zAG (λh=>hr.f (by omega))]) ((Below.refl _ _).alloc (zAA _) _)
 have hm:=hr.t;have pw:Hid (bB b.aq b.ptz=scan (cU b.aq b.ptz) b.ptz.length):=we (by omega);go_loopw [17,3,4] (λi u v w1=>∃k:Nat,k<=b.ptz.length/\i=.int .i64 k/\Hid (scan (cU b.aq b.ptz) k=0)/\Hid (Below (w.heap.size+1) (w.alloc (.cells (bx b a2 c2 a3 c3 a4 c4) 78)) w1)) (λi _ _ _=>b.ptz.length-(intOf i).toNat)
 case atStart=>exact⟨0,zAJ _,rfl,rfl,Below.refl _ _⟩
 case round=>
  obtain⟨k,hk,rfl,hN,hB⟩:=hrel;have g1:=boxed hB.o 1;have g2:=boxed hB.o 2;simp only[zCC,zBI,zBB]at g1 g2;by_cases au:k<b.ptz.length
  .obtain⟨⟨blk,off,sp⟩,x,rfl,hx,x0,x1,x2,x3,x4,vf,x5,x6⟩:=H2.o.1.elem H2.o.2 au;obtain rfl:sp=none:=x0.1;have x7:=x6.later (Kp.boxed hB.o);obtain⟨af,cf,hf,_⟩:=x6;obtain⟨rfl,lf,mf,_,_⟩:=hf;unfold maxLen at mf;have HX:Hid (b.ptz[k]?=some x/\ah wr (.slice af x.fits.length cf) x.fits):=⟨hx,x7⟩
   have cB:x.name.size<=maxLen:=by have:=HS.o k x au hx;unfold maxLen;omega
   have oW:=hid au;have y0:=(x0.later (Kp.boxed hB.o)).2;have y1:=(x1.later (Kp.boxed hB.o)).2;have y2:=(x2.later (Kp.boxed hB.o)).2;have y3:=(x3.later (Kp.boxed hB.o)).2;have y4:=(x4.later (Kp.boxed hB.o)).2;have y5:=(x5.later (Kp.boxed hB.o)).2;simp only[<-zBD]at y0 y1 y2 y3 y4 y5;have kd:w.heap.size+1<=wr.heap.size:=by have:=hB.o.size;simp at this;omega
   have lO:=x0.lt;have kE:(k:Int)<(b.ptz.length:Int):=by omega
   go_wp2_with(first
    |(go_at_call 187
      refine(AJ _ _ cB).mono ?_;rintro e w1 ⟨⟨r,rfl,YK⟩,bJ⟩;have B1:=hid (hB.o.step kd bJ);have p0:=f7 bJ 0;have p1:=f7 bJ 1;have p2:=f7 bJ 2;have p3:=f7 bJ 3;have p4:=f7 bJ 4;have p5:=f7 bJ 5;have q1:=boxed B1.o 1;have q2:=boxed B1.o 2;simp only[zCC,zBI,zBB]at p0 p1 p2 p3 p4 p5 q1 q2;cases r)
    |(go_at_call 188
      refine(AL _ _ (b.ptz.take k) _ x.name ((HPA.o.later (Kp.boxed B1.o)).take hk) p0).mono ?_;rintro e w2 ⟨⟨r,rfl,W7⟩,ib⟩;have B2:=hid (B1.o.trans (ib.mono (by have:=B1.o.size;simpa using this)));have s1:=ak.cell ⟨w2,ib⟩ p1;have s2:=ak.cell ⟨w2,ib⟩ p2;have s3:=ak.cell ⟨w2,ib⟩ p3;have s4:=ak.cell ⟨w2,ib⟩ p4;have s5:=ak.cell ⟨w2,ib⟩ p5;have t1:=ak.cell ⟨w2,ib⟩ q1;simp only at s1 s2 s3 s4 s5 t1;have s5a:∀o,(w2.alloc o).cell? ⟨wr.heap.size,5,none⟩=_:=λo=>ak.cell ⟨w2.alloc o,(Below.refl _ _).alloc (zAA _) o⟩ s5;have t1a:∀o,(w2.alloc o).cell? ⟨w.heap.size,1,none⟩=_:=λo=>ak.cell ⟨w2.alloc o,(Below.refl _ _).alloc (zAA _) o⟩ t1;have HF:Hid (∀o,ah (w2.alloc o) (.slice af x.fits.length cf) x.fits):=λo=>(HX.o.2.later (Kp.trans (Kp.alloc wr _) (Kp.of bJ) (by simp))).later (Kp.trans (Kp.of ib) (Kp.alloc w2 o) ib.size)
      have uJ:Hid (r=true\/iK b.ptz x.name k):=(by
       cases r with
       |true=>exact .inl rfl
       |false=>exact .inr λi y hi hy e=>W7.f ⟨i,y,by rw[zES];omega,by rw[zFP hi];exact hy,e⟩)
      have HNY:Hid (r=false\/∃i y,i<k/\b.ptz[i]?=some y/\y.name=x.name):=(by
       cases r with
       |false=>exact .inl rfl
       |true=>
        obtain⟨i,y,hi,hy,e⟩:=W7.t;have Zu:i<k:=by rw[zES]at hi;omega
        exact .inr ⟨i,y,Zu,by rw[zFP Zu]at hy;exact hy,e⟩)
      skip;cases r)
    |(go_at_call 115;(with_reducible refine(jU _ x.cost _ _).mono ?_);rintro e w' ⟨r,rfl,hrc,rfl⟩;cases r)
    |(go_at_call 115;(with_reducible refine(jU _ x.d8 _ _).mono ?_);rintro e w' ⟨r,rfl,Ri,rfl⟩;cases r)
    |(go_at_call 99;refine(v6 _ _ _ _ _ (by omega) _).mono ?_;rintro e w' ⟨r,rfl,hrx,rfl⟩;cases r))
   .go_ret;exact bg.mk (r:=4) (pw.o.trans (aO hN.o (N9 HX.o.1 YK.f) (by decide) oW.o)).symm (Below.boxed B1.o)
   .go_ret;exact bg.mk (r:=1) (pw.o.trans (aO hN.o (pZ HX.o.1 YK.t (uJ.o.resolve_left (by simp)) λh=>hrc.f h.1) (by decide) oW.o)).symm (Below.boxed B2.o)
   .go_ret;exact bg.mk (r:=1) (pw.o.trans (aO hN.o (pZ HX.o.1 YK.t (uJ.o.resolve_left (by simp)) λh=>Ri.f h.2.1) (by decide) oW.o)).symm (Below.boxed B2.o)
   .go_ret;exact bg.mk (r:=1) (pw.o.trans (aO hN.o (pZ HX.o.1 YK.t (uJ.o.resolve_left (by simp)) λh=>hrx.f ⟨h.2.2.1.1,h.2.2.1.2.1,h.2.2.1.2.2,h.2.2.2⟩) (by decide) oW.o)).symm (Below.boxed (Below.alloc B2.o (by have:=B2.o.size;simpa using this) _))
   .have HPB:Hid (cU b.aq b.ptz k=scan (ik b.aq x.fits) x.fits.length):=(by
     have h:=hrx.t;exact AE HX.o.1 YK.t (uJ.o.resolve_left (by simp)) ⟨hrc.t,Ri.t,⟨h.1,h.2.1,h.2.2.1⟩,h.2.2.2⟩)
    have YF:wrap64 (b.aq-1)=b.aq-1:=by unfold wrap64;omega
    have gJ:=hid (Below.boxed (Below.alloc B2.o (by have:=B2.o.size;simpa using this) (.cells #[.int .i64 x.lo,.int .i64 x.hi] 34)));go_loop [51,5,6] (λi u v=>∃m:Nat,m<=x.fits.length/\i=.int .i64 m/\Hid (scan (ik b.aq x.fits) m=0)) (λi _ _=>x.fits.length-(intOf i).toNat)
    case atStart=>exact⟨0,zAJ _,rfl,rfl⟩
    case round=>
     obtain⟨m,hm2,rfl,hM⟩:=hrel;by_cases jb:m<x.fits.length
     .obtain⟨a',kO,JE,hf2⟩:=HF.o (.cells #[.int .i64 x.lo,.int .i64 x.hi] 34);have he:=JE.eq;simp only[Value.slice.injEq]at he;obtain⟨rfl,-,rfl⟩:=he;obtain⟨⟨fb,fo,fs⟩,y,rfl,hy,y0⟩:=JE.elem hf2 jb;obtain rfl:fs=none:=y0.1;have z0:=y0.2;simp only at z0;have HY:=hid hy;have HMK:=hid jb;have zbu:(m:Int)<(x.fits.length:Int):=by omega
      by_cases ti:0<=y/\y<=b.aq-1
      .have e3:(decide (0<=y)&&decide (y<=b.aq-1))=true:=by simpa using ti
       have xl:=hid ti;by_cases Jv:0<m
       .obtain⟨b',z,AF,YG,z1⟩:=JE.elem hf2 (show m-1<x.fits.length by omega);cases AF;have z1:=z1.2;simp only at z1;have HZ:=hid YG;have Uk:=hid Jv;have oT:wrap64 ((m:Int)-1)=((m-1:Nat):Int):=by unfold wrap64;omega
        have lP:(0:Int)<(m:Int):=by omega
        have qv:((m-1:Nat):Int)<(x.fits.length:Int):=by omega
        by_cases hzy:y<=z
        .have HZY:=hid hzy;go_wp2_with(go_at_call 115;refine(dq _ _ _ _).mono ?_;rw[e3];rintro e w' ⟨rfl,rfl⟩)
         go_ret;exact bg.mk (r:=7) (pw.o.trans (aO hN.o (HPB.o.trans (aO hM.o (Uh HY.o xl.o Uk.o HZ.o HZY.o) (by decide) HMK.o)) (by decide) oW.o)).symm gJ.o
        .have HZY:=hid (Int.lt_of_not_ge hzy);go_wp2_with(go_at_call 115;refine(dq _ _ _ _).mono ?_;rw[e3];rintro e w' ⟨rfl,rfl⟩)
         go_round
         case rel=>exact⟨m+1,by omega,by go_num,ij hM.o (Dw HY.o xl.o λz' _ lO=>by rw[HZ.o]at lO;cases lO;exact HZY.o)⟩
         case measure=>simp[intOf];omega
       .have lP:¬(0:Int)<(m:Int):=by omega
        have Uk:=hid Jv;go_wp2_with(go_at_call 115;refine(dq _ _ _ _).mono ?_;rw[e3];rintro e w' ⟨rfl,rfl⟩)
        go_round
        case rel=>exact⟨m+1,by omega,by go_num,ij hM.o (Dw HY.o xl.o λz' h _=>absurd h Uk.o)⟩
        case measure=>simp[intOf];omega
      .have e3:(decide (0<=y)&&decide (y<=b.aq-1))=false:=by
        cases hd:(decide (0<=y)&&decide (y<=b.aq-1))with
        |false=>rfl
        |true=>exact absurd (by simpa using hd) ti
       have xl:=hid ti;go_wp2_with(go_at_call 115;refine(dq _ _ _ _).mono ?_;rw[e3];rintro e w' ⟨rfl,rfl⟩)
       go_ret;exact bg.mk (r:=6) (pw.o.trans (aO hN.o (HPB.o.trans (aO hM.o (Ug HY.o xl.o) (by decide) HMK.o)) (by decide) oW.o)).symm gJ.o
     .have em:m=x.fits.length:=by omega
      subst em;have HK:=hid (HPB.o.trans hM.o);go_wp2
      go_round
      case rel=>exact⟨k+1,by omega,by go_num,ij hN.o HK.o,(Below.alloc B2.o (by have:=B2.o.size;simpa using this) _:Below _ _ _)⟩
      case measure=>simp[intOf];omega
   .obtain⟨i,y,hi,hy,PS⟩:=HNY.o.resolve_left (by simp);go_ret;exact bg.mk (r:=5) (pw.o.trans (aO hN.o (Oa HX.o.1 YK.t hi hy PS) (by decide) oW.o)).symm (Below.boxed B2.o)
  .have ek:k=b.ptz.length:=by omega
   subst ek;go_wp2
   go_ret;exact bg.mk (r:=0) (pw.o.trans hN.o).symm (Below.boxed hB.o)
def Gy (w:nq) (v:fu) (b:aj) (hb:az w v b) (LZ:1<=b.ptz.length/\b.ptz.length<=5):Calls ZP 185 #[v] w (bg w λr=>r=bT b.ptz.length b.cj):=by
 obtain⟨v2,v3,v4,rfl,h2,Od,h4⟩:=hb;have HPA:=hid Od;obtain⟨a3,c3,h3,f3⟩:=Od;have H3:Hid (bi w v3 b.cj.length a3 c3/\_):=⟨h3,f3⟩
 obtain⟨rfl,l3,m3,n3,r3⟩:=h3;obtain⟨a2,c2,⟨rfl,_,m2,_,_⟩,_⟩:=h2;obtain⟨a4,c4,⟨rfl,_,_,_,_⟩,_⟩:=h4;unfold maxLen at m3;have lL:wrap64 ((b.ptz.length:Int)-1)=b.ptz.length-1:=by unfold wrap64;omega
 by_cases y7:(5:Int)<(b.cj.length:Int)
 .go_enter ZF185,Tryz.ntmps185
  go_wp2
  go_ret;exact bg.mk (r:=2) (by unfold bT;rw[zAG (by omega)]) ((Below.refl _ _).alloc (zAA _) _)
 have pw:Hid (bT b.ptz.length b.cj=scan (dr b.ptz.length b.cj) b.cj.length):=wj (by omega);go_enter ZF185,Tryz.ntmps185
 go_wp2
 go_loopw [14,3,4] (λi u v w1=>∃k:Nat,k<=b.cj.length/\i=.int .i64 k/\Hid (scan (dr b.ptz.length b.cj) k=0)/\Hid (Below (w.heap.size+1) (w.alloc (.cells (bx b a2 c2 a3 c3 a4 c4) 78)) w1)) (λi _ _ _=>b.cj.length-(intOf i).toNat)
 case atStart=>exact⟨0,zAJ _,rfl,rfl,Below.refl _ _⟩
 case round=>
  obtain⟨k,hk,rfl,hN,hB⟩:=hrel;have g2:=boxed hB.o 2;have g3:=boxed hB.o 3;simp only[zCC,zBI,zBB]at g2 g3;by_cases au:k<b.cj.length
  .obtain⟨⟨blk,off,sp⟩,⟨xa,xb⟩,rfl,hx,x0,x1⟩:=H3.o.1.elem H3.o.2 au;obtain rfl:sp=none:=x0.1;have HX:=hid hx;have oW:=hid au;have y0:=(x0.later (Kp.boxed hB.o)).2;have y1:=(x1.later (Kp.boxed hB.o)).2;simp only[<-zBD]at y0 y1;have kd:w.heap.size+1<=wr.heap.size:=by have:=hB.o.size;simp at this;omega
   have lO:=x0.lt;have kE:(k:Int)<(b.cj.length:Int):=by omega
   have lP:(k:Int)<=(c3:Int):=by omega
   have HA:Hid (Below w.heap.size w (wr.alloc (.cells #[.int .i64 xa,.int .i64 xb] 53))):=Below.one (Below.boxed hB.o) (by omega) _ 0;have ZZ:∀o,(wr.alloc o).cell? ⟨w.heap.size,2,none⟩=some (.slice a2 b.ptz.length c2):=λo=>(fM (by show w.heap.size<_;omega) o).trans g2;by_cases h1:0<=xa/\xa<=(b.ptz.length:Int)-1
   .have e1:(decide (0<=xa)&&decide (xa<=(b.ptz.length:Int)-1))=true:=by simpa using h1
    have PC:=hid h1;by_cases h2:0<=xb/\xb<=(b.ptz.length:Int)-1
    .have e2:(decide (0<=xb)&&decide (xb<=(b.ptz.length:Int)-1))=true:=by simpa using h2
     have HN2:=hid h2;by_cases h3:xb<xa
     .have HN3:=hid (Int.not_le.2 h3);go_wp2_with(go_at_call 115;refine(dq _ _ _ _).mono ?_;(first|rw[e1]|rw[e2]);rintro e w' ⟨rfl,rfl⟩)
      go_ret;exact bg.mk (r:=7) (pw.o.trans (aO hN.o (Ob HX.o ⟨PC.o,HN2.o⟩ (λ(h:xa<=xb)=>by have:=HN3.o;omega)) (by decide) oW.o)).symm HA.o
     .have YL:Hid (wg b.ptz.length (xa,xb)):=⟨PC.o,HN2.o,Int.not_lt.1 h3⟩
      have G3:∀X:ak (wr.alloc (.cells #[.int .i64 xa,.int .i64 xb] 53)),X.1.cell? ⟨w.heap.size,3,none⟩=some (.slice (some ⟨blk,off,none⟩) b.cj.length c3):=λX=>
       X.cell ((fM (by show w.heap.size<_;omega) _).trans g3)
      have T0:∀X:ak (wr.alloc (.cells #[.int .i64 xa,.int .i64 xb] 53)),X.1.cell? ⟨wr.heap.size,0,none⟩=some (.int .i64 xa):=λX=>f7 X.2 0;have T1:∀X:ak (wr.alloc (.cells #[.int .i64 xa,.int .i64 xb] 53)),X.1.cell? ⟨wr.heap.size,1,none⟩=some (.int .i64 xb):=λX=>f7 X.2 1;have hz:=hid kd;by_cases eV:(xa,xb)∈b.cj.take k
      .have BV:Hid (∃i,i<k/\b.cj[i]?=some (xa,xb)):=by
        obtain⟨j,hj,oB⟩:=zBX eV;rw[List.getElem_take]at oB;have Pp:j<b.cj.length:=by simp at hj;omega
        exact⟨j,by simp at hj;omega,by rw[zAI Pp,oB]⟩
       have oX:∀X:ak (wr.alloc (.cells #[.int .i64 xa,.int .i64 xb] 53)),Calls ZP 137 #[.slice (some ⟨blk,off,none⟩) k c3,.agg #[.int .i64 xa,.int .i64 xb]] X.1 (λe iL=>e=.returned (.bool true)/\∃Y:ak (wr.alloc (.cells #[.int .i64 xa,.int .i64 xb] 53)),iL=Y.1):=λX=>
        (d9 _ _ _ _ _ (((HPA.o.later (Kp.boxed hB.o)).later (Kp.trans (Kp.alloc wr _) X.kp (by simp))).take hk)).mono λe w' ⟨⟨r,h1,h2⟩,h3⟩=>⟨by cases r with
          |true=>exact h1
          |false=>exact absurd eV h2.f,X.on h3⟩
       go_wp2_with(go_at_call 115;refine(dq _ _ _ _).mono ?_;(first|rw[e1]|rw[e2]);rintro e w' ⟨rfl,rfl⟩)
       refine ae (by kernel_rfl) (by kernel_rfl) ?_;repeat(go_big_quiet_step (first|(go_at_call 137;exact oX _)))
       refine wpQuiet_nil ?_;rintro _ ⟨X,rfl⟩;go_wp2
       go_ret;obtain⟨i,hi,hy⟩:=BV.o;exact bg.mk (r:=5) (pw.o.trans (aO hN.o (Oc HX.o YL.o hi hy) (by decide) oW.o)).symm (Below.boxed (hB.o.step hz.o X.2))
      .have HNP:Hid (jl b.cj (xa,xb) k):=λi y hi hy e=>by
        subst e;have hil:=(zAO.1 hy)
        exact eV (zGA.2 ⟨i,by rw[zFP hi];exact hy⟩)
       have oX:∀X:ak (wr.alloc (.cells #[.int .i64 xa,.int .i64 xb] 53)),Calls ZP 137 #[.slice (some ⟨blk,off,none⟩) k c3,.agg #[.int .i64 xa,.int .i64 xb]] X.1 (λe iL=>e=.returned (.bool false)/\∃Y:ak (wr.alloc (.cells #[.int .i64 xa,.int .i64 xb] 53)),iL=Y.1):=λX=>
        (d9 _ _ _ _ _ (((HPA.o.later (Kp.boxed hB.o)).later (Kp.trans (Kp.alloc wr _) X.kp (by simp))).take hk)).mono λe w' ⟨⟨r,h1,h2⟩,h3⟩=>⟨by cases r with
          |false=>exact h1
          |true=>exact absurd h2.t eV,X.on h3⟩
       go_wp2_with(go_at_call 115;refine(dq _ _ _ _).mono ?_;(first|rw[e1]|rw[e2]);rintro e w' ⟨rfl,rfl⟩)
       refine ae (by kernel_rfl) (by kernel_rfl) ?_;repeat(go_big_quiet_step (first|(go_at_call 137;exact oX _)))
       refine wpQuiet_nil ?_;rintro _ ⟨X,rfl⟩;go_wp2
       go_round
       case rel=>exact⟨k+1,by omega,by go_num,ij hN.o (Gu HX.o YL.o HNP.o),hB.o.step hz.o X.2⟩
       case measure=>simp[intOf];omega
    .have e2:(decide (0<=xb)&&decide (xb<=(b.ptz.length:Int)-1))=false:=by
      cases hd:(decide (0<=xb)&&decide (xb<=(b.ptz.length:Int)-1))with
      |false=>rfl
      |true=>exact absurd (by simpa using hd) h2
     have HN2:=hid h2;by_cases MS:xa=xb
     .exact absurd PC.o (by rw[MS];exact HN2.o)
     .clear MS;go_wp2_with(go_at_call 115;refine(dq _ _ _ _).mono ?_;(first|rw[e1]|rw[e2]);rintro e w' ⟨rfl,rfl⟩)
      go_ret;exact bg.mk (r:=6) (pw.o.trans (aO hN.o (AH HX.o λh=>HN2.o h.2) (by decide) oW.o)).symm HA.o
   .have e1:(decide (0<=xa)&&decide (xa<=(b.ptz.length:Int)-1))=false:=by
     cases hd:(decide (0<=xa)&&decide (xa<=(b.ptz.length:Int)-1))with
     |false=>rfl
     |true=>exact absurd (by simpa using hd) h1
    have PC:=hid h1;go_wp2_with(go_at_call 115;refine(dq _ _ _ _).mono ?_;rw[e1];rintro e w' ⟨rfl,rfl⟩)
    go_ret;exact bg.mk (r:=6) (pw.o.trans (aO hN.o (AH HX.o λh=>PC.o h.1) (by decide) oW.o)).symm HA.o
  .have ek:k=b.cj.length:=by omega
   subst ek;go_wp2
   go_ret;exact bg.mk (r:=0) (pw.o.trans hN.o).symm (Below.boxed hB.o)
def y8 {b:aj} (h:mv b) (p q:Int):(min p q,max p q)∈b.cj↔Apart b.cj p q:=by
 constructor
 .intro hm;refine⟨_,hm,?_⟩;by_cases e:p<=q
  .left;simp only;omega
  .right;simp only;omega
 .rintro⟨⟨x,y⟩,hm,hx⟩;obtain⟨j,hj,oB⟩:=zBX hm;have hle:=(h.all j _ hj (by rw[zAI hj,oB])).1.le
  have:(min p q,max p q)=(x,y):=by
   rcases hx with⟨rfl,rfl⟩|⟨rfl,rfl⟩<;>simp only at*<;>ext<;>simp only<;>omega
  rw[this];exact hm
def qe (w:nq) (v:fu) (b:aj) (p q:Int) (hb:az w v b) (h:mv b):
 Calls ZP 116 #[v,.int .i64 p,.int .i64 q] w (dF w λr=>Tr r (Apart b.cj p q)):=by
 obtain⟨v2,v3,v4,rfl,h2,YM,h4⟩:=hb;obtain⟨a2,c2,⟨rfl,_,_,_,_⟩,_⟩:=h2;obtain⟨a4,c4,⟨rfl,_,_,_,_⟩,_⟩:=h4;have hP0:=YM;obtain⟨a3,c3,⟨rfl,_,_,_,_⟩,_⟩:=hP0;have YM:=YM.later (Kp.alloc w (.cells (bx b a2 c2 a3 c3 a4 c4) 78));by_cases hqp:q<p
 .have hC:=d9 _ _ _ q p YM
  have hI:(q,p)∈b.cj↔Apart b.cj p q:=by
   have:=y8 h p q;rwa [show min p q=q by omega,show max p q=p by omega]at this
  have znI:¬p<q:=by omega
  go_enter ZF116,Tryz.ntmps116
  go_wp2_with(go_at_call 137;refine hC.mono ?_;rintro e w1 ⟨⟨r,rfl,hr⟩,bJ⟩;cases r)
  .go_ret;exact dF.mk (Tr.no λha=>hr.f (hI.2 ha)) (Below.step (Below.refl _ _) (zAA _) bJ)
  .go_ret;exact dF.mk (Tr.yes (hI.1 hr.t)) (Below.step (Below.refl _ _) (zAA _) bJ)
 .have hI:(p,q)∈b.cj↔Apart b.cj p q:=by
   have:=y8 h p q;rwa [show min p q=p by omega,show max p q=q by omega]at this
  by_cases hpq:p<q
  .have hC:=d9 _ _ _ p q YM;go_enter ZF116,Tryz.ntmps116
   go_wp2_with(go_at_call 137;refine hC.mono ?_;rintro e w1 ⟨⟨r,rfl,hr⟩,bJ⟩;cases r)
   .go_ret;exact dF.mk (Tr.no λha=>hr.f (hI.2 ha)) (Below.step (Below.refl _ _) (zAA _) bJ)
   .go_ret;exact dF.mk (Tr.yes (hI.1 hr.t)) (Below.step (Below.refl _ _) (zAA _) bJ)
  .obtain rfl:p=q:=by omega
   have hC:=d9 _ _ _ p p YM;go_enter ZF116,Tryz.ntmps116
   go_wp2_with(go_at_call 137;refine hC.mono ?_;rintro e w1 ⟨⟨r,rfl,hr⟩,bJ⟩;cases r)
   .go_ret;exact dF.mk (Tr.no λha=>hr.f (hI.2 ha)) (Below.step (Below.refl _ _) (zAA _) bJ)
   .go_ret;exact dF.mk (Tr.yes (hI.1 hr.t)) (Below.step (Below.refl _ _) (zAA _) bJ)
def uh.Xk {w w1:nq} {v0 v1 v2 v3 v4:fu} {t:Nat} (h:Below (w.heap.size+1) (w.alloc (.cells #[v0,v1,v2,v3,v4] t)) w1):uh w1 w.heap.size v0 v1 v2 v3 v4:=
 ⟨boxed h 0,boxed h 1,boxed h 2,boxed h 3,boxed h 4⟩
def Oe (w:nq) (g n c:Nat) (a:Option Addr) (k:Int) (hn:1<=n/\n<=5) (hg:w.cell? ⟨g,2,none⟩=some (.slice a n c)):
 Calls ZP 114 #[.int .i64 k,.pointer (some ⟨g,0,none⟩)] w (dK w λr=>Tr r (¬(0<=k/\k<=(n:Int)-1))):=by
 have lL:wrap64 ((n:Int)-1)=n-1:=by unfold wrap64;omega
 go_enter ZF114,Tryz.ntmps114
 go_wp2_with(go_at_call 115;refine(jU _ _ _ _).mono ?_;rintro e w' ⟨r,rfl,hr,rfl⟩;cases r)
 .go_ret;exact dK.mk (Tr.yes hr.f)
 .go_ret;exact dK.mk (Tr.no λh=>h hr.t)
def DA (w:nq) (v:fu) (l:List Int) (g n c:Nat) (a:Option Addr) (h:ah w v l) (hn:1<=n/\n<=5) (hg:w.cell? ⟨g,2,none⟩=some (.slice a n c)):
 Calls ZP 136 #[v,.func (.func 114) #[] #[.pointer (some ⟨g,0,none⟩)]] w (λe w'=>∃r,e=.returned (.int .i64 r)/\(0<=r↔¬oV l n l.length)/\w'=w):=by
 obtain⟨a1,c1,h1,h2⟩:=h;have H:Hid (bi w v l.length a1 c1/\_):=⟨h1,h2⟩
 have HG:=hid hg;obtain⟨rfl,l1,m1,n1,r1⟩:=h1;unfold maxLen at m1;clear h2 n1 r1 hg;go_enter ZF136,Tryz.ntmps136
 go_wp2
 go_loop [8,5] (λi j=>∃k:Nat,k<=l.length/\Hid (oV l n k)/\i=.int .i64 k) (λi _=>l.length-(intOf i).toNat)
 case atStart=>exact⟨0,zAJ _,oV.zero _ _,rfl⟩
 case round=>
  obtain⟨k,oT,hN,rfl⟩:=hrel;by_cases au:k<l.length
  .obtain⟨⟨blk,off,sp⟩,y,rfl,hy,y0⟩:=H.o.1.elem H.o.2 au;obtain rfl:sp=none:=y0.1;have g0:=y0.2;simp only at g0;have HY:=hid hy;have oW:=hid au;have kE:(k:Int)<(l.length:Int):=by omega
   clear y0 hy
   go_wp2_with
    (go_at_call 114
     refine(Oe _ _ _ _ _ _ hn HG.o).mono ?_;rintro e w' ⟨r,rfl,hr,rfl⟩;cases r)
   .have HI:=hid (Classical.not_not.1 hr.f);clear hr;go_round
    case rel=>exact⟨k+1,by omega,hN.o.succ HY.o HI.o,by go_num⟩
    case measure=>simp[intOf];omega
   .have HI:=hid hr.t;clear hr;go_ret;exact⟨_,rfl,⟨λ_ h=>HI.o (h k y oW.o HY.o),λ_=>Int.natCast_nonneg _⟩,rfl⟩
  .have ek:k=l.length:=by omega
   subst ek;go_wp2
   go_ret;exact⟨-1,rfl,⟨λh=>absurd h (by decide),λh=>absurd hN.o h⟩,rfl⟩
def DB (w:nq) (v:fu) (l:List Int) (g n c:Nat) (a:Option Addr) (h:ah w v l) (hn:1<=n/\n<=5) (hg:w.cell? ⟨g,2,none⟩=some (.slice a n c)):
 Calls ZP 113 #[v,.func (.func 114) #[] #[.pointer (some ⟨g,0,none⟩)]] w (dK w λr=>Tr r (¬oV l n l.length)):=by
 go_enter ZF113,Tryz.ntmps113
 go_wp2_with
  (go_at_call 136
   refine(DA _ _ _ _ _ _ _ h hn hg).mono ?_;rintro e w1 ⟨r,rfl,hr,rfl⟩;have HR:=hid hr;clear hr)
 go_ret;refine dK.mk ?_;unfold Tr;simp only[zCF];exact HR.o
def KH (w:nq) (v vl:fu) (b:aj) (l:List Int) (hb:az w v b) (hl:ah w vl l) (hp:1<=b.ptz.length/\b.ptz.length<=5) (Xl:mv b):
 Calls ZP 60 #[v,vl] w (bg w λs=>s=cH b l):=by
 have HB:=hid hb;have HI:=hid hl;have HPR:=hid Xl;obtain⟨v2,v3,v4,rfl,⟨a2,c2,h2,f2⟩,⟨a3,c3,⟨rfl,_,_,_,_⟩,_⟩,⟨a4,c4,⟨rfl,_,_,_,_⟩,_⟩⟩:=hb;obtain⟨al,cl,tW,fl⟩:=hl;have H2:Hid (bi w v2 b.ptz.length a2 c2/\_):=⟨h2,f2⟩
 have HL:Hid (bi w vl l.length al cl/\_):=⟨tW,fl⟩
 obtain⟨rfl,l2,m2,n2,r2⟩:=h2;obtain⟨rfl,ll,ml,nl,rl⟩:=tW;unfold maxLen at m2 ml;clear r2 f2 n2 rl fl nl Xl;by_cases hlen:(l.length:Int)=b.aq
 case neg=>
  have wh:=hid hlen;go_enter ZF60,Tryz.ntmps60
  go_wp2
  go_ret;exact bg.mk (r:=2) (my wh.o) ((Below.refl _ _).alloc (zAA _) _)
 case pos=>
 have bu:((l.length:Int)!=b.aq)=false:=by simp[hlen]
 have wh:=hid hlen
 have HO:=DB (w.alloc (.cells (bx b a2 c2 a3 c3 a4 c4) 78)) _ l w.heap.size b.ptz.length c2 a2
  (HI.o.later (Kp.alloc w _)) hp (boxed (Below.refl _ _) 2)
 clear hlen;go_enter ZF60,Tryz.ntmps60
 go_wp2_with
  (go_at_call 113
   refine HO.mono ?_;rintro e w' ⟨r,rfl,hr,rfl⟩;cases r)
 rotate_left
 .have HR:=hr.t;go_ret;exact bg.mk (r:=6) (nR wh.o HR) ((Below.refl _ _).alloc (zAA _) _)
 have HRG:=hid (Classical.not_not.1 hr.f);clear HO hr;go_loopw [20,5,6] (λi u v w1=>∃k:Nat,k<=l.length/\i=.int .i64 k/\Hid (mU b l k)/\Hid (Below (w.heap.size+1) (w.alloc (.cells (bx b a2 c2 a3 c3 a4 c4) 78)) w1)) (λi _ _ _=>l.length-(intOf i).toNat)
 case atStart=>exact⟨0,zAJ _,rfl,mU.zero _ _,Below.refl _ _⟩
 case round=>
  obtain⟨k,hk,rfl,hF,hB⟩:=hrel;have gg:=uh.Xk hB.o;by_cases au:k<l.length
  .obtain⟨⟨blk,off,sp⟩,x,rfl,hx,x0⟩:=HL.o.1.elem HL.o.2 au;obtain rfl:sp=none:=x0.1;obtain⟨xn,rfl⟩:=Int.eq_ofNat_of_zero_le (HRG.o k x au hx).1;have hxr:=(HRG.o k xn au hx).2;have H6:xn<b.ptz.length:=by omega
   obtain⟨⟨pb,po,ps⟩,P,rfl,hP,_,_,_,_,_,vf,p5,xP⟩:=H2.o.1.elem H2.o.2 H6;obtain rfl:ps=none:=p5.1;have hf:=xP;obtain⟨af,cf,⟨rfl,_,_,_,_⟩,_⟩:=xP;have HX:=hid hx;have oW:=hid au;have HPX:Hid (b.ptz[(xn:Int).toNat]?=some P):=by rw[zDY];exact hP
   have G0:=λX:ak wr=>X.cell gg.c0;have G1:=λX:ak wr=>X.cell gg.c1;have G2:=λX:ak wr=>X.cell gg.c2;have G3:=λX:ak wr=>X.cell gg.c3;have G4:=λX:ak wr=>X.cell gg.c4;have y0:=(x0.later (Kp.boxed hB.o)).2;have Y5:=λX:ak wr=>X.cell (p5.later (Kp.boxed hB.o)).2;simp only[<-zBD]at y0 Y5;have kE:(k:Int)<(l.length:Int):=by omega
   have hx2:(xn:Int)<(b.ptz.length:Int):=by omega
   have hz:Hid (w.heap.size+1<=wr.heap.size):=by have:=hB.o.size;simp at this;exact(by omega:w.heap.size+1<=wr.heap.size)
   clear hx hP p5 gg;by_cases pH:(k:Int)∈P.fits
   .have ui:∀X:ak wr,Calls ZP 76 #[.slice af P.fits.length cf,.int .i64 k] X.1 (λe iL=>e=.returned (.bool true)/\∃Y:ak wr,iL=Y.1):=λX=>
     (im _ _ _ k ((hf.later (Kp.boxed hB.o)).later X.kp)).mono λe w' ⟨r,h1,h2,h3⟩=>⟨by rw[h1,h2.2 pH],X.same h3⟩
    have HFT:=hid pH;clear pH;by_cases qA:0<k
    .obtain⟨b',z,AF,YG,z0⟩:=HL.o.1.elem HL.o.2 (show k-1<l.length by omega);cases AF;have Z0:=λX:ak wr=>X.cell (z0.later (Kp.boxed hB.o)).2;simp only at Z0;have HZ:=hid YG;have PD:=hid qA;have oT:wrap64 ((k:Int)-1)=((k-1:Nat):Int):=by unfold wrap64;omega
     have lP:(0:Int)<(k:Int):=by omega
     have qv:((k-1:Nat):Int)<(l.length:Int):=by omega
     clear z0 YG x0;by_cases wi:Apart b.cj z xn
     .have HAP:=hid wi
      have qb:∀X:ak wr,Calls ZP 116 #[.agg #[.int .i64 b.aB,.int .i64 b.aq,.slice (some ⟨pb,po,none⟩) b.ptz.length c2,.slice a3 b.cj.length c3,.slice a4 b.cR.length c4],.int .i64 z,.int .i64 xn] X.1 (λe iL=>e=.returned (.bool true)/\∃Y:ak wr,iL=Y.1):=λX=>
       (qe _ _ _ _ _ ((HB.o.later (Kp.boxed hB.o)).later X.kp) HPR.o).mono λe w' ⟨⟨r,h1,h2⟩,h3⟩=>⟨by cases r with
         |true=>exact h1
         |false=>exact absurd wi h2.f,X.on h3⟩
      clear wi;go_wp2
      refine ae (by kernel_rfl) (by kernel_rfl) ?_;repeat(go_big_quiet_step (first|(go_at_call 76;exact ui _)|(go_at_call 116;exact qb _)))
      refine wpQuiet_nil ?_;rintro _ ⟨X,rfl⟩;go_wp2
      go_ret;exact bg.mk (r:=3) (il wh.o HRG.o λh=>(h k _ oW.o HX.o).Zq PD.o z HZ.o HAP.o) (Below.boxed (hB.o.trans (X.2.mono hz.o)))
     .have HAP:=hid wi
      have qb:∀X:ak wr,Calls ZP 116 #[.agg #[.int .i64 b.aB,.int .i64 b.aq,.slice (some ⟨pb,po,none⟩) b.ptz.length c2,.slice a3 b.cj.length c3,.slice a4 b.cR.length c4],.int .i64 z,.int .i64 xn] X.1 (λe iL=>e=.returned (.bool false)/\∃Y:ak wr,iL=Y.1):=λX=>
       (qe _ _ _ _ _ ((HB.o.later (Kp.boxed hB.o)).later X.kp) HPR.o).mono λe w' ⟨⟨r,h1,h2⟩,h3⟩=>⟨by cases r with
         |false=>exact h1
         |true=>exact absurd h2.t wi,X.on h3⟩
      clear wi;go_wp2
      refine ae (by kernel_rfl) (by kernel_rfl) ?_;repeat(go_big_quiet_step (first|(go_at_call 76;exact ui _)|(go_at_call 116;exact qb _)))
      refine wpQuiet_nil ?_;rintro _ ⟨X,rfl⟩;go_wp2
      go_round
      case rel=>exact⟨k+1,by omega,by go_num,hF.o.succ HX.o ⟨⟨P,HPX.o,HFT.o⟩,λ_ y hy=>by rw[HZ.o]at hy;cases hy;exact HAP.o⟩,hB.o.trans (X.2.mono hz.o)⟩
      case measure=>simp[intOf];omega
    .have lP:¬(0:Int)<(k:Int):=by omega
     have PD:=hid qA;clear x0;go_wp2
     refine ae (by kernel_rfl) (by kernel_rfl) ?_;repeat(go_big_quiet_step (first|(go_at_call 76;exact ui _)))
     refine wpQuiet_nil ?_;rintro _ ⟨X,rfl⟩;go_wp2
     go_round
     case rel=>exact⟨k+1,by omega,by go_num,hF.o.succ HX.o ⟨⟨P,HPX.o,HFT.o⟩,λh=>absurd h PD.o⟩,hB.o.trans (X.2.mono hz.o)⟩
     case measure=>simp[intOf];omega
   .have ui:∀X:ak wr,Calls ZP 76 #[.slice af P.fits.length cf,.int .i64 k] X.1 (λe iL=>e=.returned (.bool false)/\∃Y:ak wr,iL=Y.1):=λX=>
     (im _ _ _ k ((hf.later (Kp.boxed hB.o)).later X.kp)).mono λe w' ⟨r,h1,h2,h3⟩=>⟨by cases r with
       |false=>exact h1
       |true=>exact absurd h2.t pH,X.same h3⟩
    have HFT:=hid pH;clear pH x0;go_wp2
    refine ae (by kernel_rfl) (by kernel_rfl) ?_;repeat(go_big_quiet_step (first|(go_at_call 76;exact ui _)))
    refine wpQuiet_nil ?_;rintro _ ⟨X,rfl⟩;go_wp2
    go_ret
    exact bg.mk (r:=3) (il wh.o HRG.o λh=>by
     obtain⟨P',YH,hm⟩:=(h k _ oW.o HX.o).fits;rw[HPX.o]at YH;cases YH;exact HFT.o hm) (Below.boxed (hB.o.trans (X.2.mono hz.o)))
  .clear gg;have ek:k=l.length:=by omega
   subst ek;go_wp2
   go_ret;exact bg.mk (r:=0) (nS ⟨wh.o,HRG.o,hF.o⟩) (Below.boxed hB.o)
def DC (w:nq) (v:fu) (b:aj) (hb:az w v b) (hp:1<=b.ptz.length/\b.ptz.length<=5) (Xl:mv b):Calls ZP 186 #[v] w (bg w λs=>s=dt b):=by
 have HB:=hid hb;have HPR:=hid Xl;obtain⟨v2,v3,v4,rfl,⟨a2,c2,⟨rfl,_,_,_,_⟩,_⟩,⟨a3,c3,⟨rfl,_,_,_,_⟩,_⟩,⟨a4,c4,h4,f4⟩⟩:=hb;have H4:Hid (bi w v4 b.cR.length a4 c4/\_):=⟨h4,f4⟩
 obtain⟨rfl,l4,m4,n4,r4⟩:=h4;unfold maxLen at m4;clear r4 f4 n4 Xl;by_cases y7:(4:Int)<(b.cR.length:Int)
 .go_enter ZF186,Tryz.ntmps186
  go_wp2
  go_ret;exact bg.mk (r:=2) (by unfold dt;rw[zAG (by omega)]) ((Below.refl _ _).alloc (zAA _) _)
 have HTS:Hid (dt b=scan (df b) b.cR.length):=tw (by omega);go_enter ZF186,Tryz.ntmps186
 go_wp2
 go_loopw [15,4] (λi u w1=>∃k:Nat,k<=b.cR.length/\i=.int .i64 k/\Hid (scan (df b) k=0)/\Hid (Below (w.heap.size+1) (w.alloc (.cells (bx b a2 c2 a3 c3 a4 c4) 78)) w1)) (λi _ _=>b.cR.length-(intOf i).toNat)
 case atStart=>exact⟨0,zAJ _,rfl,rfl,Below.refl _ _⟩
 case round=>
  obtain⟨k,hk,rfl,hN,hB⟩:=hrel;obtain⟨s0,s1,s2,s3,s4⟩:=uh.Xk hB.o;by_cases au:k<b.cR.length
  .obtain⟨⟨blk,off,sp⟩,t,rfl,hx,⟨vf,x0,hf⟩,x1,x2⟩:=H4.o.1.elem H4.o.2 au;obtain rfl:sp=none:=x0.1;have Ig:=hf;obtain⟨af,cf,⟨rfl,_,_,_,_⟩,_⟩:=hf;have HX:=hid hx;have oW:=hid au;have kd:w.heap.size+1<=wr.heap.size:=by have:=hB.o.size;simp at this;omega
   have hz:=hid kd;have s0':∀o,(wr.alloc o).cell? ⟨w.heap.size,0,none⟩=some (.int .i64 b.aB):=λo=>(fM (by show w.heap.size<_;omega) o).trans s0;have s1':∀o,(wr.alloc o).cell? ⟨w.heap.size,1,none⟩=some (.int .i64 b.aq):=λo=>(fM (by show w.heap.size<_;omega) o).trans s1;have s2':∀o,(wr.alloc o).cell? ⟨w.heap.size,2,none⟩=some (.slice a2 b.ptz.length c2):=λo=>(fM (by show w.heap.size<_;omega) o).trans s2;have s3':∀o,(wr.alloc o).cell? ⟨w.heap.size,3,none⟩=some (.slice a3 b.cj.length c3):=λo=>(fM (by show w.heap.size<_;omega) o).trans s3;have s4':∀o,(wr.alloc o).cell? ⟨w.heap.size,4,none⟩=some (.slice (some ⟨blk,off,none⟩) b.cR.length c4):=λo=>(fM (by show w.heap.size<_;omega) o).trans s4;have y0:=(x0.later (Kp.boxed hB.o)).2;have y1:=(x1.later (Kp.boxed hB.o)).2;have y2:=(x2.later (Kp.boxed hB.o)).2;simp only[<-zBD]at y0 y1 y2;have kE:(k:Int)<(b.cR.length:Int):=by omega
   have hC:=KH (wr.alloc (.cells #[.slice af t.ptz.length cf,.int .i64 t.lo,.int .i64 t.hi] 56)) _ _ _ _ ((HB.o.later (Kp.boxed hB.o)).later (Kp.alloc wr _)) ((Ig.later (Kp.boxed hB.o)).later (Kp.alloc wr _)) hp HPR.o;obtain⟨mb,Uj⟩:=ex1 (cH b t.ptz);have HMB:=hid Uj;rw[Uj]at hC;clear Ig x0 x1 x2 hx Uj;by_cases Jv:mb=0
   .subst Jv;have Ul:=hid (eU.1 HMB.o)
    go_wp2_with(first
     |(go_at_call 60
       refine hC.mono ?_;rintro e w1 ⟨⟨r,rfl,rfl⟩,bJ⟩;have B1:=hid (hB.o.step kd bJ);have p1:=f7 bJ 1;have p2:=f7 bJ 2;simp only[zCC,zBI,zBB]at p1 p2)
     |(go_at_call 99;refine(v6 _ _ _ _ _ (by omega) _).mono ?_;rintro e w' ⟨r,rfl,hr,rfl⟩;cases r))
    .have HR:Hid (¬(0<=t.lo/\t.lo<=t.hi/\t.hi<=99)):=λh=>hr.f ⟨h.1,h.2.1,h.2.2,by omega⟩;go_ret;exact bg.mk (r:=1) (HTS.o.trans (aO hN.o (IX HX.o Ul.o HR.o) (by decide) oW.o)).symm (Below.boxed (Below.alloc B1.o (by have:=B1.o.size;simpa using this) _))
    .have YL:Hid (uI b t):=⟨Ul.o,hr.t.1,hr.t.2.1,hr.t.2.2.1⟩
     clear hr;go_round
     case rel=>exact⟨k+1,by omega,by go_num,ij hN.o (AI HX.o YL.o),(Below.alloc B1.o (by have:=B1.o.size;simpa using this) _:Below _ _ _)⟩
     case measure=>simp[intOf];omega
   .have Uk:=hid Jv
    go_wp2_with
     (go_at_call 60
      refine hC.mono ?_;rintro e w1 ⟨⟨r,rfl,rfl⟩,bJ⟩;have B1:Hid (Below (w.heap.size+1) _ w1):=hB.o.step kd bJ)
    go_ret;exact bg.mk (HTS.o.trans (aO hN.o ((IY HX.o (by rw[HMB.o];exact Uk.o)).trans HMB.o) Uk.o oW.o)).symm (Below.boxed B1.o)
  .have ek:k=b.cR.length:=by omega
   subst ek;go_wp2
   go_ret;exact bg.mk (r:=0) (HTS.o.trans hN.o).symm (Below.boxed hB.o)
structure rz (w:nq):Prop where
 c0:w.cell? ⟨0,0,none⟩=some (.func (.func 183) #[] #[])
 c1:w.cell? ⟨0,1,none⟩=some (.func (.func 184) #[] #[])
 c2:w.cell? ⟨0,2,none⟩=some (.func (.func 185) #[] #[])
 c3:w.cell? ⟨0,3,none⟩=some (.func (.func 186) #[] #[])
def rz.on {w:nq} (h:rz w) (X:ak w):rz X.1:=⟨X.cell h.c0,X.cell h.c1,X.cell h.c2,X.cell h.c3⟩
def rz.later {w w':nq} (h:rz w) (k:Below w.heap.size w w'):rz w':=h.on ⟨w',k⟩
section
variable (w:nq)
def zgM:(Instr.index 144 (.agg #[.func (.func 183) #[] #[],.func (.func 184) #[] #[],.func (.func 185) #[] #[],.func (.func 186) #[] #[]]) (.int .i64 0)).run ZP w=.ok (.func (.func 183) #[] #[]) w:=by
 have u:ZP.underlying 144=some (.array 4 84):=by rw[Tz.under];exact Tryz.underlying144
 have a3:=Tryz.isAgg84;have z3:=Tryz.sizeOf84;simp[Instr.index,run_underlying u,asIntOf,part,go_sem,a3,z3]
def zgN:(Instr.index 144 (.agg #[.func (.func 183) #[] #[],.func (.func 184) #[] #[],.func (.func 185) #[] #[],.func (.func 186) #[] #[]]) (.int .i64 1)).run ZP w=.ok (.func (.func 184) #[] #[]) w:=by
 have u:ZP.underlying 144=some (.array 4 84):=by rw[Tz.under];exact Tryz.underlying144
 have a3:=Tryz.isAgg84;have z3:=Tryz.sizeOf84;simp[Instr.index,run_underlying u,asIntOf,part,go_sem,a3,z3]
def zgO:(Instr.index 144 (.agg #[.func (.func 183) #[] #[],.func (.func 184) #[] #[],.func (.func 185) #[] #[],.func (.func 186) #[] #[]]) (.int .i64 2)).run ZP w=.ok (.func (.func 185) #[] #[]) w:=by
 have u:ZP.underlying 144=some (.array 4 84):=by rw[Tz.under];exact Tryz.underlying144
 have a3:=Tryz.isAgg84;have z3:=Tryz.sizeOf84;simp[Instr.index,run_underlying u,asIntOf,part,go_sem,a3,z3]
def zgP:(Instr.index 144 (.agg #[.func (.func 183) #[] #[],.func (.func 184) #[] #[],.func (.func 185) #[] #[],.func (.func 186) #[] #[]]) (.int .i64 3)).run ZP w=.ok (.func (.func 186) #[] #[]) w:=by
 have u:ZP.underlying 144=some (.array 4 84):=by rw[Tz.under];exact Tryz.underlying144
 have a3:=Tryz.isAgg84;have z3:=Tryz.sizeOf84;simp[Instr.index,run_underlying u,asIntOf,part,go_sem,a3,z3]
end
section
variable {b:aj}
def Gz (h:cI b≠0):bE b=cI b:=by
 have h2:¬((1<=b.aB/\b.aB<=99)/\1<=b.aq/\b.aq<=4):=λk=>h (ee.2 k);rw[kS h2];unfold bE;rw[zAG h2]
def GA (h0:cI b=0) (h:bB b.aq b.ptz≠0):bE b=bB b.aq b.ptz:=by
 unfold bE;rw[zAE (ee.1 h0),zAG h]
def GB (h0:cI b=0) (h1:bB b.aq b.ptz=0) (h:bT b.ptz.length b.cj≠0):bE b=bT b.ptz.length b.cj:=by
 unfold bE;rw[zAE (ee.1 h0),zAE h1,zAG h]
def tz (h0:cI b=0) (h1:bB b.aq b.ptz=0) (h2:bT b.ptz.length b.cj=0):bE b=dt b:=by
 unfold bE;rw[zAE (ee.1 h0),zAE h1,zAE h2]
end
def Far (b:aj) (k:Int):Prop:=k=0\/(k=1/\cI b=0)\/(k=2/\cI b=0/\bB b.aq b.ptz=0)\/(k=3/\cI b=0/\bB b.aq b.ptz=0/\bT b.ptz.length b.cj=0)\/(k=4/\bE b=0)
def tA (w:nq) (v:fu) (b:aj) (hb:az w v b) (hs:gU b) (hc:rz w):Calls ZP 56 #[v] w (bg w λs=>s=bE b):=by
 have HB:=hid hb;have HS:=hid hs;obtain⟨v2,v3,v4,rfl,⟨a2,c2,⟨rfl,_,_,_,_⟩,_⟩,⟨a3,c3,⟨rfl,_,_,_,_⟩,_⟩,⟨a4,c4,⟨rfl,_,_,_,_⟩,_⟩⟩:=hb;obtain⟨k0,k1,k2,k3⟩:=hc.later ((Below.refl _ _).alloc (zAA _) (.cells (bx b a2 c2 a3 c3 a4 c4) 26));go_enter ZF56,Tryz.ntmps56
 go_wp2
 go_loopw [7,4,5] (λi u v w1=>∃k:Int,Hid (Far b k)/\i=.int .i64 k/\Hid (Below (w.heap.size+1) (w.alloc (.cells (bx b a2 c2 a3 c3 a4 c4) 26)) w1)) (λi _ _ _=>4-(intOf i).toNat)
 case atStart=>exact⟨0,(.inl rfl:_\/_),rfl,Below.refl _ _⟩
 case round=>
  obtain⟨k,hk,rfl,hB⟩:=hrel;obtain⟨s0,s1,s2,s3,s4⟩:=uh.Xk hB.o;have bJ:=HB.o.later (Kp.boxed hB.o);have hs:=hB.o.size;simp at hs;rcases hk.o with rfl|⟨rfl,ho⟩|⟨rfl,ho,hp⟩|⟨rfl,ho,hp,hq⟩|⟨rfl,hz⟩
  .have ix:=zgM wr;go_wp2_with(go_at_call 183;refine(Gw _ _ _ bJ).mono ?_;rintro e w1 ⟨⟨r,rfl,hr⟩,ib⟩;have HR:Hid (r=cI b):=hr;clear hr;by_cases h0:r=0)
   .go_round
    case rel=>exact⟨1,(.inr (.inl ⟨rfl,by rw[<-HR.o];exact h0⟩):Far b 1),rfl,hB.o.trans (ib.mono hs)⟩
    case measure=>simp[intOf]
   .go_ret;exact bg.mk (HR.o.trans (Gz (by rw[<-HR.o];exact h0)).symm) (Below.boxed (hB.o.trans (ib.mono hs)))
  .have ix:=zgN wr;have HO:=hid ho;have tU:=(ee.1 ho).2;go_wp2_with(go_at_call 184;refine(Gx _ _ _ bJ HS.o tU).mono ?_;rintro e w1 ⟨⟨r,rfl,hr⟩,ib⟩;have HR:Hid (r=bB b.aq b.ptz):=hr;clear hr;by_cases h0:r=0)
   .go_round
    case rel=>exact⟨2,(.inr (.inr (.inl ⟨rfl,HO.o,by rw[<-HR.o];exact h0⟩)):Far b 2),rfl,hB.o.trans (ib.mono hs)⟩
    case measure=>simp[intOf]
   .go_ret;exact bg.mk (HR.o.trans (GA HO.o (by rw[<-HR.o];exact h0)).symm) (Below.boxed (hB.o.trans (ib.mono hs)))
  .have ix:=zgO wr;have HO:Hid (cI b=0/\bB b.aq b.ptz=0):=⟨ho,hp⟩
   have LZ:=(gI.1 hp).many;go_wp2_with(go_at_call 185;refine(Gy _ _ _ bJ LZ).mono ?_;rintro e w1 ⟨⟨r,rfl,hr⟩,ib⟩;have HR:Hid (r=bT b.ptz.length b.cj):=hr;clear hr;by_cases h0:r=0)
   .go_round
    case rel=>exact⟨3,(.inr (.inr (.inr (.inl ⟨rfl,HO.o.1,HO.o.2,by rw[<-HR.o];exact h0⟩))):Far b 3),rfl,hB.o.trans (ib.mono hs)⟩
    case measure=>simp[intOf]
   .go_ret;exact bg.mk (HR.o.trans (GB HO.o.1 HO.o.2 (by rw[<-HR.o];exact h0)).symm) (Below.boxed (hB.o.trans (ib.mono hs)))
  .have ix:=zgP wr;have HO:Hid (cI b=0/\bB b.aq b.ptz=0/\bT b.ptz.length b.cj=0):=⟨ho,hp,hq⟩
   have LZ:=(gI.1 hp).many;have Xl:=jW.1 hq;go_wp2_with(go_at_call 186;refine(DC _ _ _ bJ LZ Xl).mono ?_;rintro e w1 ⟨⟨r,rfl,hr⟩,ib⟩;have HR:Hid (r=dt b):=hr;clear hr;by_cases h0:r=0)
   .go_round
    case rel=>exact⟨4,(.inr (.inr (.inr (.inr ⟨rfl,(tz HO.o.1 HO.o.2.1 HO.o.2.2).trans (by rw[<-HR.o];exact h0)⟩))):Far b 4),rfl,hB.o.trans (ib.mono hs)⟩
    case measure=>simp[intOf]
   .go_ret;exact bg.mk (HR.o.trans (tz HO.o.1 HO.o.2.1 HO.o.2.2).symm) (Below.boxed (hB.o.trans (ib.mono hs)))
  .have HZ:=hid hz;go_wp2
   go_ret;exact bg.mk (r:=0) HZ.o.symm (Below.boxed hB.o)
def DD {b:aj} (h:Valid b):gU b:=λj x hj hx=>by
 have:=(h.ptz.all j x hj hx).1.name.2.1;omega
def GC (w:nq) (v:fu) (b:aj) (hb:az w v b) (hv:Valid b) (hc:rz w):Calls ZP 56 #[v] w (bg w λs=>s=0):=
 (tA w v b hb (DD hv) hc).mono λ_ _ ⟨⟨r,h1,h2⟩,h3⟩=>⟨⟨r,h1,h2.trans (dN.2 hv)⟩,h3⟩
end Go.Proofs.Cz
