/- A part. Conditions: none. -/
import Derived.Test.YtehbindidbgacaaGreatDoorT24
import Derived.Laws.IdiomStrings
set_option linter.all false
set_option maxHeartbeats 8000000
set_option maxRecDepth 100000
namespace Go.Proofs.Cz
open Go.RowKit
theorem BI (w:World) (s:ByteArray):∃cap w',(convert 9 202 (.string s)).run ZP w=.ok (.slice (some ⟨w.heap.size,0,none⟩) s.size cap) w'/\Below w.heap.size w w'/\∀j (hj:j<s.size),w'.cell? ⟨w.heap.size,j,none⟩=some (.int .u8 s[j].toNat):=by
 have u9:ZP.underlying 9=some .string:=by rw[Tz.under];exact Tryz.underlying9
 have u77:ZP.underlying 202=some (.slice 5):=by rw[Tz.under];exact Tryz.underlying202
 have u5:ZP.underlying 5=some (.int .u8):=by rw[Tz.under];exact Tryz.underlying5
 refine⟨_,_,run_bytes_of_string w 9 202 5 s u9 u77 u5,?_,?_⟩
 .exact Below.alloc (Below.drewN (Below.refl _ _) 1) (Nat.le_refl _) _
 .intro j hj;exact(World.cell?_alloc_mark _ _ _ _ _).trans (bytesRow_at s _ j hj)
end Go.Proofs.Cz
namespace Go.Proofs.Cz
open Go.RowKit
end Go.Proofs.Cz
namespace Go.RowKit
theorem Below.step {B:Nat} {a w w1:World} {o:Obj} (h:Below B a w) (hs:B<=w.heap.size) (k:Below (w.alloc o).heap.size (w.alloc o) w1):Below B a w1:=
 (Below.alloc h hs o).trans (k.mono (by simp;omega))
end Go.RowKit
namespace Go.Proofs.Cz
open Go.RowKit
variable {a:Option Addr} {cap k n:Nat} {w:World}
theorem eL {w1:World} {cs:Array Value} {t:Nat} (h:Below (w.alloc (.cells cs t)).heap.size (w.alloc (.cells cs t)) w1) (k:Nat):w1.cell? ⟨w.heap.size,k,none⟩=cs[k]?:=boxed h.jc k
theorem bA.take {v:Value} (h:bA w v n a cap) (hk:k<=n):bA w (.slice a k cap) k a cap:=
 ⟨rfl,Nat.le_trans hk h.le,h.Qb,h.nil,h.row⟩
theorem dS.take {l:List Part} (h:dS w (.slice a n cap) l) (hk:k<=l.length):dS w (.slice a k cap) (l.take k):=by
 obtain⟨a',jw,h1,h2⟩:=h;obtain⟨rfl,-,rfl⟩:a=a'/\_/\cap=jw:=by simpa using h1.eq
 have hl:(l.take k).length=k:=by simp;omega
 refine⟨a,cap,by rw[hl];exact h1.take hk,fun b e j x hj=>h2 b e j x ?_⟩;have nk:j<k:=by have:=(List.getElem?_eq_some_iff.1 hj).1;omega
 rw[List.getElem?_take]at hj;simpa [nk]using hj
theorem dR.take {l:List (Int×Int)} (h:dR w (.slice a n cap) l) (hk:k<=l.length):dR w (.slice a k cap) (l.take k):=by
 obtain⟨a',jw,h1,h2⟩:=h;obtain⟨rfl,-,rfl⟩:a=a'/\_/\cap=jw:=by simpa using h1.eq
 have hl:(l.take k).length=k:=by simp;omega
 refine⟨a,cap,by rw[hl];exact h1.take hk,fun b e j x hj=>h2 b e j x ?_⟩;have nk:j<k:=by have:=(List.getElem?_eq_some_iff.1 hj).1;omega
 rw[List.getElem?_take]at hj;simpa [nk]using hj
end Go.Proofs.Cz
namespace Go.Proofs.Cz
open Go.RowKit
theorem wE (w:World) (s:ByteArray) (hs:s.size<=maxLen):Calls ZP 159 #[.string s] w (cn w fun r=>Tr r (jm s)):=by
 unfold maxLen at hs;obtain⟨cap,w1,uR,hb,hc⟩:=BI w s;have HB:Hid (Below w.heap.size w w1):=hb;have HC:Hid (∀j (hj:j<s.size),w1.cell? ⟨w.heap.size,j,none⟩=some (.int .u8 s[j].toNat)):=hc;clear hb hc;go_enter ZF159,Tryz.ntmps159
 go_wp2
 go_loop [8,3,4] (fun i u v=>∃k:Nat,k<=s.size/\Hid (mZ s k)/\i=.int .i64 k) (fun i _ _=>s.size-(intOf i).toNat)
 case atStart=>exact⟨0,Nat.zero_le _,(fun j hj h=>absurd h (Nat.not_lt_zero j):mZ s 0),rfl⟩
 case round=>
  obtain⟨k,hk,hN,rfl⟩:=hrel;by_cases au:k<s.size
  .have y0:=HC.out k au;have iO:(k:Int)<(s.size:Int):=by omega
   by_cases hl:mY (s[k].toNat)
   .have HL:Hid (mY (s[k].toNat)):=hl;obtain⟨a1,a2⟩:=hl;go_wp2
    go_round
    case rel=>exact⟨k+1,by omega,hN.out.succ au (.inl HL.out),by go_num⟩
    case measure=>simp[intOf];omega
   .have HL:Hid (¬mY (s[k].toNat)):=hl;by_cases hd:0<k/\uQ (s[k].toNat)
    .have HD:Hid (0<k/\uQ (s[k].toNat)):=hd;obtain⟨nt,a1,a2⟩:=hd;have iN:(0:Int)<(k:Int):=by omega
     have a3:¬(97:Int)<=s[k].toNat:=by omega
     clear hl;go_wp2
     go_round
     case rel=>exact⟨k+1,by omega,hN.out.succ au (.inr HD.out),by go_num⟩
     case measure=>simp[intOf];omega
    .have Qj:Hid (¬jm s):=fun h=>by
      rcases h.2.2 k au au with h1|h1
      .exact hl h1
      .exact hd h1
     by_cases b1:(97:Int)<=s[k].toNat
     .have b2:¬(s[k].toNat:Int)<=122:=fun h=>hl ⟨b1,h⟩;by_cases nt:0<k
      .have iN:(0:Int)<(k:Int):=by omega
       have b4:(48:Int)<=s[k].toNat:=by omega
       have b5:¬(s[k].toNat:Int)<=57:=by omega
       clear hl hd uR;go_wp2
       go_ret;exact cn.mk (r:=false) ⟨(fun h=>by cases h),fun h=>absurd h Qj.out⟩ HB.out
      .have iN:¬(0:Int)<(k:Int):=by omega
       clear hl hd uR;go_wp2
       go_ret;exact cn.mk (r:=false) ⟨(fun h=>by cases h),fun h=>absurd h Qj.out⟩ HB.out
     .by_cases nt:0<k
      .have iN:(0:Int)<(k:Int):=by omega
       by_cases b4:(48:Int)<=s[k].toNat
       .have b5:¬(s[k].toNat:Int)<=57:=fun h=>hd ⟨nt,b4,h⟩;clear hl hd uR;go_wp2
        go_ret;exact cn.mk (r:=false) ⟨(fun h=>by cases h),fun h=>absurd h Qj.out⟩ HB.out
       .clear hl hd uR;go_wp2
        go_ret;exact cn.mk (r:=false) ⟨(fun h=>by cases h),fun h=>absurd h Qj.out⟩ HB.out
      .have iN:¬(0:Int)<(k:Int):=by omega
       clear hl hd uR;go_wp2
       go_ret;exact cn.mk (r:=false) ⟨(fun h=>by cases h),fun h=>absurd h Qj.out⟩ HB.out
  .have ek:k=s.size:=by omega
   subst ek;clear uR;go_wp2_with(go_at_call 92;refine(iJ _ _ _ _).mono ?_;rintro e w' ⟨r,rfl,hr,rfl⟩)
   go_ret;exact cn.mk (r:=r) ⟨fun h=>by have:=hr.1 h;exact⟨by omega,by omega,hN.out⟩,fun h=>hr.2 ⟨by have:=h.1;omega,by have:=h.2.1;omega⟩⟩ HB.out
theorem tQ (w:World) (g:Nat) (n1 nm:ByteArray) (a b c d:Int) (vf:Value) (af:Option Addr) (lf cf:Nat) (JV:vf=.slice af lf cf) (hg:w.cell? ⟨g,0,none⟩=some (.string nm)):
 Calls ZP 161 #[.agg #[.string n1,.int .i64 a,.int .i64 b,.int .i64 c,.int .i64 d,vf],.pointer (some ⟨g,0,none⟩)] w (cn w fun r=>Tr r (n1=nm)):=by
 subst JV;have D7:=(Kp.alloc w (.cells #[.string n1,.int .i64 a,.int .i64 b,.int .i64 c,.int .i64 d,.slice af lf cf] 77))
 have RN:(w.alloc (.cells #[.string n1,.int .i64 a,.int .i64 b,.int .i64 c,.int .i64 d,.slice af lf cf] 77)).cell? ⟨g,0,none⟩=some (.string nm):=
  (aj.cell ⟨_,(Below.refl _ _).alloc (Nat.le_refl _) _⟩ hg:_)
 clear D7;by_cases e:n1=nm
 .subst e;have hd:(n1.toList==n1.toList)=true:=by simp
  go_enter ZF161,Tryz.ntmps161
  go_wp2
  go_ret;exact cn.mk (r:=true) (by unfold Tr;simp) ((Below.refl _ _).alloc (Nat.le_refl _) _)
 .have hd:(n1.toList==nm.toList)=false:=by
   cases hh:(n1.toList==nm.toList)with
   |false=>rfl
   |true=>exact absurd (Ds hh) e
  have HE:Hid (n1≠nm):=e;clear e;go_enter ZF161,Tryz.ntmps161
  go_wp2
  go_ret;exact cn.mk (r:=false) ⟨(fun h=>by cases h),fun h=>absurd h HE.out⟩ ((Below.refl _ _).alloc (Nat.le_refl _) _)
theorem wF (w:World) (v:Value) (l:List Part) (g:Nat) (nm:ByteArray) (h:dS w v l) (hg:w.cell? ⟨g,0,none⟩=some (.string nm)):
 Calls ZP 162 #[v,.func (.func 161) #[] #[.pointer (some ⟨g,0,none⟩)]] w (aV w fun r=>r=-1/\fD l nm l.length\/0<=r/\∃i y,i<l.length/\l[i]?=some y/\y.name=nm):=by
 obtain⟨a,c,h1,h2⟩:=h;have H:Hid (bA w v l.length a c/\_):=⟨h1,h2⟩
 have HG:Hid (w.cell? ⟨g,0,none⟩=some (.string nm)):=hg;obtain⟨rfl,l1,m1,n1,r1⟩:=h1;unfold maxLen at m1;clear h2 n1 r1 hg;go_enter ZF162,Tryz.ntmps162
 go_wp2
 go_loopw [8,5] (fun i j w1=>∃k:Nat,k<=l.length/\Hid (fD l nm k)/\i=.int .i64 k/\Hid (Below w.heap.size w w1)) (fun i _ _=>l.length-(intOf i).toNat)
 case atStart=>exact⟨0,Nat.zero_le _,fD.zero _ _,rfl,Below.refl _ _⟩
 case round=>
  obtain⟨k,hk,hN,rfl,hB⟩:=hrel;by_cases au:k<l.length
  .obtain⟨⟨blk,off,sp⟩,x,rfl,hx,x0,x1,x2,x3,x4,vf,x5,x6⟩:=H.out.1.elem H.out.2 au;obtain rfl:sp=none:=x0.1;obtain⟨af,cf,hf,_⟩:=x6;obtain⟨rfl,lf,mf,_,_⟩:=hf;have y0:=(x0.later (Kp.of hB.out)).2;have y1:=(x1.later (Kp.of hB.out)).2;have y2:=(x2.later (Kp.of hB.out)).2;have y3:=(x3.later (Kp.of hB.out)).2;have y4:=(x4.later (Kp.of hB.out)).2;have y5:=(x5.later (Kp.of hB.out)).2;simp only[<-Nat.add_assoc]at y0 y1 y2 y3 y4 y5;have iO:(k:Int)<(l.length:Int):=by omega
   have hgr:=aj.cell ⟨wr,hB.out⟩ HG.out;have HX:Hid (l[k]?=some x):=hx;clear x0 x1 x2 x3 x4 x5 hx
   go_wp2_with
    (go_at_call 161
     refine(tQ _ _ _ _ _ _ _ _ _ _ _ _ rfl hgr).mono ?_;rintro e w1 ⟨⟨r,rfl,hr⟩,bi⟩;cases r)
   .go_round
    case rel=>exact⟨k+1,by omega,hN.out.succ HX.out hr.f,by go_num,hB.out.trans (bi.mono hB.out.size)⟩
    case measure=>simp[intOf];omega
   .go_ret;exact aV.mk (r:=(k:Int)) (.inr ⟨by omega,k,x,au,HX.out,hr.t⟩) (hB.out.trans (bi.mono hB.out.size))
  .have ek:k=l.length:=by omega
   subst ek;go_wp2
   go_ret;exact aV.mk (r:=-1) (.inl ⟨rfl,hN.out⟩) hB.out
theorem wG (w:World) (v:Value) (l:List Part) (g:Nat) (nm:ByteArray) (h:dS w v l) (hg:w.cell? ⟨g,0,none⟩=some (.string nm)):
 Calls ZP 160 #[v,.func (.func 161) #[] #[.pointer (some ⟨g,0,none⟩)]] w (cn w fun r=>Tr r (∃i y,i<l.length/\l[i]?=some y/\y.name=nm)):=by
 go_enter ZF160,Tryz.ntmps160
 go_wp2_with
  (go_at_call 162
   refine(wF _ _ _ _ _ h hg).mono ?_;rintro e w1 ⟨⟨r,rfl,hr⟩,bi⟩;have HR:Hid (r=-1/\fD l nm l.length\/0<=r/\∃i y,i<l.length/\l[i]?=some y/\y.name=nm):=hr;clear hr)
 go_ret;refine cn.mk ?_ bi;unfold Tr;rcases HR.out with⟨rfl,h⟩|⟨h0,h⟩
 .simp only[decide_eq_true_eq];exact⟨fun h1=>by omega,fun⟨i,y,hi,hy,e⟩=>absurd e (h i y hi hy)⟩
 .exact⟨fun _=>h,fun _=>by simp;omega⟩
theorem cM.eq {w:World} {P:Bool->Prop} {v:Value} {r:Bool} (h:P r) (e:v=.bool r):cM w P (.returned v) w:=by subst e;exact .mk h
theorem E9 (w:World) (v:Value) (l:List Int) (x:Int) (h:ao w v l):Calls ZP 106 #[v,.int .i64 x] w (fun e w'=>∃r,e=.returned (.int .i64 r)/\(0<=r↔x∈l)/\w'=w):=by
 obtain⟨a,c,h1,h2⟩:=h;have H:Hid (bA w v l.length a c/\_):=⟨h1,h2⟩
 obtain⟨rfl,l1,m1,n1,r1⟩:=h1;unfold maxLen at m1;clear h2 n1 r1;go_enter ZF106,Tryz.ntmps106
 go_wp2
 go_loop [8,5] (fun i j=>∃k:Nat,k<=l.length/\Hid (iI l x k)/\i=.int .i64 k) (fun i _=>l.length-(intOf i).toNat)
 case atStart=>exact⟨0,Nat.zero_le _,iI.zero l x,rfl⟩
 case round=>
  obtain⟨k,hk,hN,rfl⟩:=hrel;by_cases au:k<l.length
  .obtain⟨⟨blk,off,sp⟩,y,rfl,hy,y0⟩:=H.o.1.elem H.o.2 au;obtain rfl:sp=none:=y0.1;have g0:=y0.2;simp only at g0;have HY:=hid hy;have iO:(k:Int)<(l.length:Int):=by omega
   clear y0 hy;by_cases e:x=y
   .subst e;go_wp2
    go_ret;exact⟨k,rfl,⟨fun _=>List.mem_of_getElem? HY.o,fun _=>by omega⟩,rfl⟩
   .have e':Hid (y≠x):=fun h=>e h.symm;go_wp2
    go_round
    case rel=>exact⟨k+1,by omega,hN.o.succ HY.o e'.out,by go_num⟩
    case measure=>simp[intOf];omega
  .have HN:Hid (x∉l):=(by have e:k=l.length:=by omega
                          subst e;exact hN.o.all)
   go_wp2
   go_ret;exact⟨-1,rfl,⟨fun h=>by omega,fun h=>absurd h HN.o⟩,rfl⟩
theorem kh (w:World) (v:Value) (l:List Int) (x:Int) (h:ao w v l):Calls ZP 84 #[v,.int .i64 x] w (cM w fun r=>Tr r (x∈l)):=by
 go_enter ZF84,Tryz.ntmps84
 go_wp2_with
  (go_at_call 106
   refine(E9 _ _ _ x h).mono ?_;rintro e w1 ⟨r,rfl,hr,rfl⟩;by_cases h0:0<=r)
 .have hx:Hid (x∈l):=hr.1 h0;go_ret;exact cM.eq (r:=true) (Tr.yes hx.o) (by simp[hx.o])
 .have hx:Hid (¬x∈l):=fun h=>by have:=hr.2 h;omega
  go_ret;exact cM.eq (r:=false) (Tr.no hx.o) (by simp[hx.o])
theorem tR (w:World) (v:Value) (l:List (Int×Int)) (p q:Int) (h:dR w v l):
 Calls ZP 136 #[v,.agg #[.int .i64 p,.int .i64 q]] w (aV w fun r=>0<=r↔(p,q)∈l):=by
 obtain⟨a,c,h1,h2⟩:=h;have H:Hid (bA w v l.length a c/\_):=⟨h1,h2⟩
 obtain⟨rfl,l1,m1,n1,r1⟩:=h1;unfold maxLen at m1;clear h2 n1 r1;go_enter ZF136,Tryz.ntmps136
 go_wp2
 go_loopw [8,5] (fun i j w1=>∃k:Nat,k<=l.length/\Hid (gi l (p,q) k)/\i=.int .i64 k/\∃n,w1=(w.alloc (.cells #[.int .i64 p,.int .i64 q] 125)).drewN n) (fun i _ _=>l.length-(intOf i).toNat)
 case atStart=>exact⟨0,Nat.zero_le _,gi.zero l _,rfl,0,rfl⟩
 case round=>
  obtain⟨k,hk,hN,rfl,n0,rfl⟩:=hrel;by_cases au:k<l.length
  .obtain⟨⟨blk,off,sp⟩,⟨ya,yb⟩,rfl,hy,y0,y1⟩:=H.o.1.elem H.o.2 au;obtain rfl:sp=none:=y0.1;have g0:=(y0.later (Kp.alloc w (.cells #[.int .i64 p,.int .i64 q] 125))).2;have g1:=(y1.later (Kp.alloc w (.cells #[.int .i64 p,.int .i64 q] 125))).2;simp only[<-Nat.add_assoc]at g0 g1;have HY:=hid hy;have iO:(k:Int)<(l.length:Int):=by omega
   clear y0 y1 hy;by_cases e1:p=ya
   .subst e1;by_cases e2:q=yb
    .subst e2;go_wp2
     go_quiet (fail)
     go_wp2
     go_ret;exact aV.mk (r:=k) ⟨fun _=>List.mem_of_getElem? HY.o,fun _=>by omega⟩ (Below.drewN (Below.drewN (Below.alloc (Below.refl _ _) (Nat.le_refl _) _) _) _)
    .have bu:Hid ((p,yb)≠(p,q)):=(fun h=>e2 (by cases h;rfl):(p,yb)≠(p,q))
     go_wp2
     go_quiet (fail)
     go_wp2
     go_round
     case rel=>exact⟨k+1,by omega,hN.o.succ HY.o bu.o,by go_num,_,rfl⟩
     case measure=>simp[intOf];omega
   .have bu:Hid ((ya,yb)≠(p,q)):=(fun h=>e1 (by cases h;rfl):(ya,yb)≠(p,q))
    go_wp2
    go_quiet (fail)
    go_wp2
    go_round
    case rel=>exact⟨k+1,by omega,hN.o.succ HY.o bu.o,by go_num,_,rfl⟩
    case measure=>simp[intOf];omega
  .have HN:Hid ((p,q)∉l):=(by
    have e:k=l.length:=by omega
    subst e;intro hm;obtain⟨j,hj,nk⟩:=List.getElem_of_mem hm;exact hN.o j _ hj (List.getElem?_eq_getElem hj) nk)
   go_wp2
   go_ret;exact aV.mk (r:=-1) ⟨fun h=>by omega,fun h=>absurd h HN.o⟩ (Below.drewN (Below.alloc (Below.refl _ _) (Nat.le_refl _) _) _)
theorem dg (w:World) (v:Value) (l:List (Int×Int)) (p q:Int) (h:dR w v l):
 Calls ZP 122 #[v,.agg #[.int .i64 p,.int .i64 q]] w (cn w fun r=>Tr r ((p,q)∈l)):=by
 go_enter ZF122,Tryz.ntmps122
 have h':=h.later (Kp.alloc w (.cells #[.int .i64 p,.int .i64 q] 125))
 go_wp2_with
  (go_at_call 136
   refine(tR _ _ _ p q h').mono ?_;rintro e w1 ⟨⟨r,rfl,hr⟩,bi⟩;by_cases h0:0<=r)
 .have hx:Hid ((p,q)∈l):=hr.1 h0;go_ret;exact cn.eq (r:=true) (Tr.yes hx.o) (Below.step (Below.refl _ _) (Nat.le_refl _) bi) (by simp[hx.o])
 .have hx:Hid (¬(p,q)∈l):=fun h=>by have:=hr.2 h;omega
  go_ret;exact cn.eq (r:=false) (Tr.no hx.o) (Below.step (Below.refl _ _) (Nat.le_refl _) bi) (by simp[hx.o])
open Classical in
noncomputable def bG (b:an):Int:=if(1<=b.ah/\b.ah<=99)/\1<=b.places/\b.places<=4 then 0 else 1
theorem dh {b:an}:bG b=0↔(1<=b.ah/\b.ah<=99)/\1<=b.places/\b.places<=4:=by
 unfold bG;split
 .rename_i h;exact⟨fun _=>h,fun _=>rfl⟩
 .rename_i h;exact⟨fun h1=>absurd h1 (by decide),fun h2=>absurd h2 h⟩
theorem jn {b:an} (h:¬((1<=b.ah/\b.ah<=99)/\1<=b.places/\b.places<=4)):bG b=1:=by unfold bG;rw[if_neg h]
theorem BJ (w:World) (v:Value) (b:an) (hb:ap w v b):Calls ZP 155 #[v] w (aV w fun r=>r=bG b):=by
 obtain⟨v2,v3,v4,rfl,⟨a2,c2,⟨rfl,_,_,_,_⟩,_⟩,⟨a3,c3,⟨rfl,_,_,_,_⟩,_⟩,⟨a4,c4,⟨rfl,_,_,_,_⟩,_⟩⟩:=hb;go_enter ZF155,Tryz.ntmps155
 go_wp2_with(first
  |(go_at_call 92;(with_reducible refine(iJ _ b.ah _ _).mono ?_);rintro e w' ⟨r,rfl,ry,rfl⟩;cases r)
  |(go_at_call 92;(with_reducible refine(iJ _ b.places _ _).mono ?_);rintro e w' ⟨r,rfl,mL,rfl⟩;cases r))
 .go_ret;exact aV.mk (r:=1) (jn fun h=>ry.f h.1).symm ((Below.refl _ _).alloc (Nat.le_refl _) _)
 .go_ret;exact aV.mk (r:=1) (jn fun h=>mL.f h.2).symm ((Below.refl _ _).alloc (Nat.le_refl _) _)
 .go_ret;exact aV.mk (r:=0) (dh.2 ⟨ry.t,mL.t⟩).symm ((Below.refl _ _).alloc (Nat.le_refl _) _)
theorem BL (w:World) (v:Value) (b:an) (hb:ap w v b) (hs:lE b) (t8:1<=b.places/\b.places<=4):Calls ZP 156 #[v] w (aV w fun r=>r=bE b.places b.parts):=by
 obtain⟨v2,v3,v4,rfl,ID,h3,h4⟩:=hb;have Xo:Hid (dS w v2 b.parts):=ID;have HS:Hid (lE b):=hs;obtain⟨a2,c2,h2,f2⟩:=ID;have H2:Hid (bA w v2 b.parts.length a2 c2/\_):=⟨h2,f2⟩
 obtain⟨rfl,l2,m2,n2,r2⟩:=h2;obtain⟨a3,c3,⟨rfl,_,_,_,_⟩,_⟩:=h3;obtain⟨a4,c4,⟨rfl,_,_,_,_⟩,_⟩:=h4;unfold maxLen at m2;clear r2 f2 n2 hs;go_enter ZF156,Tryz.ntmps156
 go_wp2_with(go_at_call 92;refine(iJ _ _ _ _).mono ?_;rintro e w' ⟨r,rfl,hr,rfl⟩;cases r)
 .go_ret;exact aV.mk (r:=2) (by unfold bE;rw[if_neg (fun h=>hr.f (by omega))]) ((Below.refl _ _).alloc (Nat.le_refl _) _)
 have hm:=hr.t;have Dv:Hid (bE b.places b.parts=scan (cB b.places b.parts) b.parts.length):=BF (by omega);clear hr;go_loopw [17,3,4] (fun i u v w1=>∃k:Nat,k<=b.parts.length/\i=.int .i64 k/\Hid (scan (cB b.places b.parts) k=0)/\Hid (Below (w.heap.size+1) (w.alloc (.cells #[.int .i64 b.ah,.int .i64 b.places,.slice a2 b.parts.length c2,.slice a3 b.apart.length c3,.slice a4 b.aa.length c4] 84)) w1)) (fun i _ _ _=>b.parts.length-(intOf i).toNat)
 case atStart=>exact⟨0,Nat.zero_le _,rfl,rfl,Below.refl _ _⟩
 case round=>
  obtain⟨k,hk,rfl,hN,hB⟩:=hrel;have g1:=boxed hB.out 1;have g2:=boxed hB.out 2;simp only[List.getElem?_toArray,List.getElem?_cons_succ,List.getElem?_cons_zero]at g1 g2;by_cases au:k<b.parts.length
  .obtain⟨⟨blk,off,sp⟩,x,rfl,hx,x0,x1,x2,x3,x4,vf,x5,x6⟩:=H2.out.1.elem H2.out.2 au;obtain rfl:sp=none:=x0.1;have x7:=x6.later (Kp.boxed hB.out);obtain⟨af,cf,hf,_⟩:=x6;obtain⟨rfl,lf,mf,_,_⟩:=hf;unfold maxLen at mf;have HX:Hid (b.parts[k]?=some x/\ao wr (.slice af x.fits.length cf) x.fits):=⟨hx,x7⟩
   have bV:x.name.size<=maxLen:=by have:=HS.out k x au hx;unfold maxLen;omega
   have sY:Hid (k<b.parts.length):=au;have y0:=(x0.later (Kp.boxed hB.out)).2;have y1:=(x1.later (Kp.boxed hB.out)).2;have y2:=(x2.later (Kp.boxed hB.out)).2;have y3:=(x3.later (Kp.boxed hB.out)).2;have y4:=(x4.later (Kp.boxed hB.out)).2;have y5:=(x5.later (Kp.boxed hB.out)).2;simp only[<-Nat.add_assoc]at y0 y1 y2 y3 y4 y5;have kM:w.heap.size+1<=wr.heap.size:=by have:=hB.out.size;simp at this;omega
   have mT:blk<w.heap.size:=x0.lt;have iO:(k:Int)<(b.parts.length:Int):=by omega
   clear x0 x1 x2 x3 x4 x5 x7 hx
   go_wp2_with(first
    |(go_at_call 159
      refine(wE _ _ bV).mono ?_;rintro e w1 ⟨⟨r,rfl,Qk⟩,bi⟩;have B1:Hid (Below (w.heap.size+1) _ w1):=hB.out.step kM bi;have p0:=eL bi 0;have p1:=eL bi 1;have p2:=eL bi 2;have p3:=eL bi 3;have p4:=eL bi 4;have p5:=eL bi 5;have q1:=boxed B1.out 1;have q2:=boxed B1.out 2;simp only[List.getElem?_toArray,List.getElem?_cons_succ,List.getElem?_cons_zero]at p0 p1 p2 p3 p4 p5 q1 q2;cases r)
    |(go_at_call 160
      refine(wG _ _ (b.parts.take k) _ x.name ((Xo.out.later (Kp.boxed B1.out)).take hk) p0).mono ?_;rintro e w2 ⟨⟨r,rfl,NH⟩,fP⟩;have B2:Hid (Below (w.heap.size+1) _ w2):=B1.out.trans (fP.mono (by have:=B1.out.size;simpa using this));have s1:=aj.cell ⟨w2,fP⟩ p1;have s2:=aj.cell ⟨w2,fP⟩ p2;have s3:=aj.cell ⟨w2,fP⟩ p3;have s4:=aj.cell ⟨w2,fP⟩ p4;have s5:=aj.cell ⟨w2,fP⟩ p5;have t1:=aj.cell ⟨w2,fP⟩ q1;simp only at s1 s2 s3 s4 s5 t1;have s5a:∀o,(w2.alloc o).cell? ⟨wr.heap.size,5,none⟩=_:=fun o=>aj.cell ⟨w2.alloc o,(Below.refl _ _).alloc (Nat.le_refl _) o⟩ s5;have t1a:∀o,(w2.alloc o).cell? ⟨w.heap.size,1,none⟩=_:=fun o=>aj.cell ⟨w2.alloc o,(Below.refl _ _).alloc (Nat.le_refl _) o⟩ t1;have HF:Hid (∀o,ao (w2.alloc o) (.slice af x.fits.length cf) x.fits):=fun o=>(HX.out.2.later (Kp.trans (Kp.alloc wr _) (Kp.of bi) (by simp))).later (Kp.trans (Kp.of fP) (Kp.alloc w2 o) fP.size)
      have oG:Hid (r=true\/fD b.parts x.name k):=(by
       cases r with
       |true=>exact .inl rfl
       |false=>exact .inr fun i y hi hy e=>NH.f ⟨i,y,by rw[List.length_take];omega,by rw[List.getElem?_take_of_lt hi];exact hy,e⟩)
      have HNY:Hid (r=false\/∃i y,i<k/\b.parts[i]?=some y/\y.name=x.name):=(by
       cases r with
       |false=>exact .inl rfl
       |true=>
        obtain⟨i,y,hi,hy,e⟩:=NH.t;have hi2:i<k:=by rw[List.length_take]at hi;omega
        exact .inr ⟨i,y,hi2,by rw[List.getElem?_take_of_lt hi2]at hy;exact hy,e⟩)
      clear p0 p1 p2 p3 p4 p5 q1 q2 NH;cases r)
    |(go_at_call 92;(with_reducible refine(iJ _ x.cost _ _).mono ?_);rintro e w' ⟨r,rfl,hrc,rfl⟩;cases r)
    |(go_at_call 92;(with_reducible refine(iJ _ x.fC _ _).mono ?_);rintro e w' ⟨r,rfl,PC,rfl⟩;cases r)
    |(go_at_call 77;refine(sf _ _ _ _ _ (by omega) _).mono ?_;rintro e w' ⟨r,rfl,hrx,rfl⟩;cases r))
   .go_ret;exact aV.mk (r:=4) (Dv.out.trans (bS hN.out (Qc HX.out.1 Qk.f) (by decide) sY.out)).symm (Below.boxed B1.out)
   .go_ret;exact aV.mk (r:=1) (Dv.out.trans (bS hN.out (BE HX.out.1 Qk.t (oG.out.resolve_left (by simp)) fun h=>hrc.f h.1) (by decide) sY.out)).symm (Below.boxed B2.out)
   .go_ret;exact aV.mk (r:=1) (Dv.out.trans (bS hN.out (BE HX.out.1 Qk.t (oG.out.resolve_left (by simp)) fun h=>PC.f h.2.1) (by decide) sY.out)).symm (Below.boxed B2.out)
   .go_ret;exact aV.mk (r:=1) (Dv.out.trans (bS hN.out (BE HX.out.1 Qk.t (oG.out.resolve_left (by simp)) fun h=>hrx.f ⟨h.2.2.1.1,h.2.2.1.2.1,h.2.2.1.2.2,h.2.2.2⟩) (by decide) sY.out)).symm (Below.boxed (Below.alloc B2.out (by have:=B2.out.size;simpa using this) _))
   .have HPB:Hid (cB b.places b.parts k=scan (gD b.places x.fits) x.fits.length):=(by
     have h:=hrx.t;exact Iz HX.out.1 Qk.t (oG.out.resolve_left (by simp)) ⟨hrc.t,PC.t,⟨h.1,h.2.1,h.2.2.1⟩,h.2.2.2⟩)
    have UU:wrap64 (b.places-1)=b.places-1:=by unfold wrap64;omega
    have eM:Hid (Below w.heap.size w _):=Below.boxed (Below.alloc B2.out (by have:=B2.out.size;simpa using this) (.cells #[.int .i64 x.lo,.int .i64 x.hi] 43));clear Qk hrc PC hrx bi fP;go_loop [51,5,6] (fun i u v=>∃m:Nat,m<=x.fits.length/\i=.int .i64 m/\Hid (scan (gD b.places x.fits) m=0)) (fun i _ _=>x.fits.length-(intOf i).toNat)
    case atStart=>exact⟨0,Nat.zero_le _,rfl,rfl⟩
    case round=>
     obtain⟨m,hm2,rfl,hM⟩:=hrel;by_cases ia:m<x.fits.length
     .obtain⟨a',jw,Ac,UY⟩:=HF.out (.cells #[.int .i64 x.lo,.int .i64 x.hi] 43);have he:=Ac.eq;simp only[Value.slice.injEq]at he;obtain⟨rfl,-,rfl⟩:=he;obtain⟨⟨fb,fo,fs⟩,y,rfl,hy,y0⟩:=Ac.elem UY ia;obtain rfl:fs=none:=y0.1;have z0:=y0.2;simp only at z0;have HY:Hid (x.fits[m]?=some y):=hy;have HMK:Hid (m<x.fits.length):=ia;have UT:(m:Int)<(x.fits.length:Int):=by omega
      by_cases rU:0<=y/\y<=b.places-1
      .have e3:(decide (0<=y)&&decide (y<=b.places-1))=true:=by simpa using rU
       have Ql:Hid (0<=y/\y<=b.places-1):=rU;clear rU;by_cases DY:0<m
       .obtain⟨b',z,Iv,NL,z1⟩:=Ac.elem UY (show m-1<x.fits.length by omega);cases Iv;have z1:=z1.2;simp only at z1;have HZ:Hid (x.fits[m-1]?=some z):=NL;have NN:Hid (0<m):=DY;have kF:wrap64 ((m:Int)-1)=((m-1:Nat):Int):=by unfold wrap64;omega
        have iN:(0:Int)<(m:Int):=by omega
        have kA:((m-1:Nat):Int)<(x.fits.length:Int):=by omega
        clear NL Ac UY y0 hy;by_cases hzy:y<=z
        .have HZY:Hid (y<=z):=hzy;go_wp2_with(go_at_call 92;refine(ci _ _ _ _).mono ?_;rw[e3];rintro e w' ⟨rfl,rfl⟩)
         go_ret;exact aV.mk (r:=7) (Dv.out.trans (bS hN.out (HPB.out.trans (bS hM.out (UW HY.out Ql.out NN.out HZ.out HZY.out) (by decide) HMK.out)) (by decide) sY.out)).symm eM.out
        .have HZY:Hid (z<y):=Int.lt_of_not_ge hzy;go_wp2_with(go_at_call 92;refine(ci _ _ _ _).mono ?_;rw[e3];rintro e w' ⟨rfl,rfl⟩)
         go_round
         case rel=>exact⟨m+1,by omega,by go_num,lW hM.out (Iy HY.out Ql.out fun z' _ mT=>by rw[HZ.out]at mT;cases mT;exact HZY.out)⟩
         case measure=>simp[intOf];omega
       .have iN:¬(0:Int)<(m:Int):=by omega
        have NN:Hid (¬0<m):=DY;clear Ac UY y0 hy;go_wp2_with(go_at_call 92;refine(ci _ _ _ _).mono ?_;rw[e3];rintro e w' ⟨rfl,rfl⟩)
        go_round
        case rel=>exact⟨m+1,by omega,by go_num,lW hM.out (Iy HY.out Ql.out fun z' h _=>absurd h NN.out)⟩
        case measure=>simp[intOf];omega
      .have e3:(decide (0<=y)&&decide (y<=b.places-1))=false:=by
        cases hd:(decide (0<=y)&&decide (y<=b.places-1))with
        |false=>rfl
        |true=>exact absurd (by simpa using hd) rU
       have Ql:Hid (¬(0<=y/\y<=b.places-1)):=rU;clear rU Ac UY y0 hy;go_wp2_with(go_at_call 92;refine(ci _ _ _ _).mono ?_;rw[e3];rintro e w' ⟨rfl,rfl⟩)
       go_ret;exact aV.mk (r:=6) (Dv.out.trans (bS hN.out (HPB.out.trans (bS hM.out (UV HY.out Ql.out) (by decide) HMK.out)) (by decide) sY.out)).symm eM.out
     .have em:m=x.fits.length:=by omega
      subst em;have HK:Hid (cB b.places b.parts k=0):=HPB.out.trans hM.out;go_wp2
      go_round
      case rel=>exact⟨k+1,by omega,by go_num,lW hN.out HK.out,(Below.alloc B2.out (by have:=B2.out.size;simpa using this) _:Below _ _ _)⟩
      case measure=>simp[intOf];omega
   .obtain⟨i,y,hi,hy,JG⟩:=HNY.out.resolve_left (by simp);go_ret;exact aV.mk (r:=5) (Dv.out.trans (bS hN.out (Qd HX.out.1 Qk.t hi hy JG) (by decide) sY.out)).symm (Below.boxed B2.out)
  .have ek:k=b.parts.length:=by omega
   subst ek;go_wp2
   go_ret;exact aV.mk (r:=0) (Dv.out.trans hN.out).symm (Below.boxed hB.out)
theorem BN (w:World) (v:Value) (b:an) (hb:ap w v b) (IE:1<=b.parts.length/\b.parts.length<=5):Calls ZP 157 #[v] w (aV w fun r=>r=bT b.parts.length b.apart):=by
 obtain⟨v2,v3,v4,rfl,h2,ID,h4⟩:=hb;have Xo:Hid (dR w v3 b.apart):=ID;obtain⟨a3,c3,h3,f3⟩:=ID;have H3:Hid (bA w v3 b.apart.length a3 c3/\_):=⟨h3,f3⟩
 obtain⟨rfl,l3,m3,n3,r3⟩:=h3;obtain⟨a2,c2,⟨rfl,_,m2,_,_⟩,_⟩:=h2;obtain⟨a4,c4,⟨rfl,_,_,_,_⟩,_⟩:=h4;unfold maxLen at m3;clear r3 f3 n3 m2;have kK:wrap64 ((b.parts.length:Int)-1)=b.parts.length-1:=by unfold wrap64;omega
 by_cases xA:(5:Int)<(b.apart.length:Int)
 .go_enter ZF157,Tryz.ntmps157
  go_wp2
  go_ret;exact aV.mk (r:=2) (by unfold bT;rw[if_neg (by omega)]) ((Below.refl _ _).alloc (Nat.le_refl _) _)
 have Dv:Hid (bT b.parts.length b.apart=scan (de b.parts.length b.apart) b.apart.length):=BH (by omega);go_enter ZF157,Tryz.ntmps157
 go_wp2
 go_loopw [14,3,4] (fun i u v w1=>∃k:Nat,k<=b.apart.length/\i=.int .i64 k/\Hid (scan (de b.parts.length b.apart) k=0)/\Hid (Below (w.heap.size+1) (w.alloc (.cells #[.int .i64 b.ah,.int .i64 b.places,.slice a2 b.parts.length c2,.slice a3 b.apart.length c3,.slice a4 b.aa.length c4] 84)) w1)) (fun i _ _ _=>b.apart.length-(intOf i).toNat)
 case atStart=>exact⟨0,Nat.zero_le _,rfl,rfl,Below.refl _ _⟩
 case round=>
  obtain⟨k,hk,rfl,hN,hB⟩:=hrel;have g2:=boxed hB.out 2;have g3:=boxed hB.out 3;simp only[List.getElem?_toArray,List.getElem?_cons_succ,List.getElem?_cons_zero]at g2 g3;by_cases au:k<b.apart.length
  .obtain⟨⟨blk,off,sp⟩,⟨xa,xb⟩,rfl,hx,x0,x1⟩:=H3.out.1.elem H3.out.2 au;obtain rfl:sp=none:=x0.1;have HX:Hid (b.apart[k]?=some (xa,xb)):=hx;have sY:Hid (k<b.apart.length):=au;have y0:=(x0.later (Kp.boxed hB.out)).2;have y1:=(x1.later (Kp.boxed hB.out)).2;simp only[<-Nat.add_assoc]at y0 y1;have kM:w.heap.size+1<=wr.heap.size:=by have:=hB.out.size;simp at this;omega
   have mT:blk<w.heap.size:=x0.lt;have iO:(k:Int)<(b.apart.length:Int):=by omega
   have iN:(k:Int)<=(c3:Int):=by omega
   clear x0 x1 hx;have HA:Hid (Below w.heap.size w (wr.alloc (.cells #[.int .i64 xa,.int .i64 xb] 125))):=Below.one (Below.boxed hB.out) (by omega) _ 0;have S4:∀o,(wr.alloc o).cell? ⟨w.heap.size,2,none⟩=some (.slice a2 b.parts.length c2):=fun o=>(dU (by show w.heap.size<_;omega) o).trans g2;by_cases h1:0<=xa/\xa<=(b.parts.length:Int)-1
   .have e1:(decide (0<=xa)&&decide (xa<=(b.parts.length:Int)-1))=true:=by simpa using h1
    have UZ:Hid (0<=xa/\xa<=(b.parts.length:Int)-1):=h1;clear h1;by_cases h2:0<=xb/\xb<=(b.parts.length:Int)-1
    .have e2:(decide (0<=xb)&&decide (xb<=(b.parts.length:Int)-1))=true:=by simpa using h2
     have U0:Hid (0<=xb/\xb<=(b.parts.length:Int)-1):=h2;clear h2;by_cases h3:xb<xa
     .have HN3:Hid (¬xa<=xb):=Int.not_le.2 h3;go_wp2_with(go_at_call 92;refine(ci _ _ _ _).mono ?_;(first|rw[e1]|rw[e2]);rintro e w' ⟨rfl,rfl⟩)
      go_ret;exact aV.mk (r:=7) (Dv.out.trans (bS hN.out (Qh HX.out ⟨UZ.out,U0.out⟩ (fun(h:xa<=xb)=>by have:=HN3.out;omega)) (by decide) sY.out)).symm HA.out
     .have NO:Hid (pr b.parts.length (xa,xb)):=⟨UZ.out,U0.out,Int.not_lt.1 h3⟩
      have G3:∀X:aj (wr.alloc (.cells #[.int .i64 xa,.int .i64 xb] 125)),X.1.cell? ⟨w.heap.size,3,none⟩=some (.slice (some ⟨blk,off,none⟩) b.apart.length c3):=fun X=>
       X.cell ((dU (by show w.heap.size<_;omega) _).trans g3)
      have T0:∀X:aj (wr.alloc (.cells #[.int .i64 xa,.int .i64 xb] 125)),X.1.cell? ⟨wr.heap.size,0,none⟩=some (.int .i64 xa):=fun X=>eL X.2 0;have T1:∀X:aj (wr.alloc (.cells #[.int .i64 xa,.int .i64 xb] 125)),X.1.cell? ⟨wr.heap.size,1,none⟩=some (.int .i64 xb):=fun X=>eL X.2 1;have hz:Hid (w.heap.size+1<=wr.heap.size):=kM;by_cases ee:(xa,xb)∈b.apart.take k
      .have JX:Hid (∃i,i<k/\b.apart[i]?=some (xa,xb)):=by
        obtain⟨j,hj,nk⟩:=List.getElem_of_mem ee;rw[List.getElem_take]at nk;have M6:j<b.apart.length:=by simp at hj;omega
        exact⟨j,by simp at hj;omega,by rw[List.getElem?_eq_getElem M6,nk]⟩
       have m9:∀X:aj (wr.alloc (.cells #[.int .i64 xa,.int .i64 xb] 125)),Calls ZP 122 #[.slice (some ⟨blk,off,none⟩) k c3,.agg #[.int .i64 xa,.int .i64 xb]] X.1 (fun e fT=>e=.returned (.bool true)/\∃Y:aj (wr.alloc (.cells #[.int .i64 xa,.int .i64 xb] 125)),fT=Y.1):=fun X=>
        (dg _ _ _ _ _ (((Xo.out.later (Kp.boxed hB.out)).later (Kp.trans (Kp.alloc wr _) X.kp (by simp))).take hk)).mono fun e w' ⟨⟨r,h1,h2⟩,h3⟩=>⟨by cases r with
          |true=>exact h1
          |false=>exact absurd ee h2.f,X.on h3⟩
       clear ee;go_wp2_with(go_at_call 92;refine(ci _ _ _ _).mono ?_;(first|rw[e1]|rw[e2]);rintro e w' ⟨rfl,rfl⟩)
       refine am (by kernel_rfl) (by kernel_rfl) ?_;repeat(go_big_quiet_step (first|(go_at_call 122;exact m9 _)))
       refine wpQuiet_nil ?_;rintro _ ⟨X,rfl⟩;go_wp2
       go_ret;obtain⟨i,hi,hy⟩:=JX.out;exact aV.mk (r:=5) (Dv.out.trans (bS hN.out (Qi HX.out NO.out hi hy) (by decide) sY.out)).symm (Below.boxed (hB.out.step hz.out X.2))
      .have HNP:Hid (gi b.apart (xa,xb) k):=fun i y hi hy e=>by
        subst e;have hil:=(List.getElem?_eq_some_iff.1 hy)
        exact ee (List.mem_iff_getElem?.2 ⟨i,by rw[List.getElem?_take_of_lt hi];exact hy⟩)
       have m9:∀X:aj (wr.alloc (.cells #[.int .i64 xa,.int .i64 xb] 125)),Calls ZP 122 #[.slice (some ⟨blk,off,none⟩) k c3,.agg #[.int .i64 xa,.int .i64 xb]] X.1 (fun e fT=>e=.returned (.bool false)/\∃Y:aj (wr.alloc (.cells #[.int .i64 xa,.int .i64 xb] 125)),fT=Y.1):=fun X=>
        (dg _ _ _ _ _ (((Xo.out.later (Kp.boxed hB.out)).later (Kp.trans (Kp.alloc wr _) X.kp (by simp))).take hk)).mono fun e w' ⟨⟨r,h1,h2⟩,h3⟩=>⟨by cases r with
          |false=>exact h1
          |true=>exact absurd h2.t ee,X.on h3⟩
       clear ee;go_wp2_with(go_at_call 92;refine(ci _ _ _ _).mono ?_;(first|rw[e1]|rw[e2]);rintro e w' ⟨rfl,rfl⟩)
       refine am (by kernel_rfl) (by kernel_rfl) ?_;repeat(go_big_quiet_step (first|(go_at_call 122;exact m9 _)))
       refine wpQuiet_nil ?_;rintro _ ⟨X,rfl⟩;go_wp2
       go_round
       case rel=>exact⟨k+1,by omega,by go_num,lW hN.out (IC HX.out NO.out HNP.out),hB.out.step hz.out X.2⟩
       case measure=>simp[intOf];omega
    .have e2:(decide (0<=xb)&&decide (xb<=(b.parts.length:Int)-1))=false:=by
      cases hd:(decide (0<=xb)&&decide (xb<=(b.parts.length:Int)-1))with
      |false=>rfl
      |true=>exact absurd (by simpa using hd) h2
     have U0:Hid (¬(0<=xb/\xb<=(b.parts.length:Int)-1)):=h2;clear h2;by_cases GD:xa=xb
     .exact absurd UZ.out (by rw[GD];exact U0.out)
     .clear GD;go_wp2_with(go_at_call 92;refine(ci _ _ _ _).mono ?_;(first|rw[e1]|rw[e2]);rintro e w' ⟨rfl,rfl⟩)
      go_ret;exact aV.mk (r:=6) (Dv.out.trans (bS hN.out (IB HX.out fun h=>U0.out h.2) (by decide) sY.out)).symm HA.out
   .have e1:(decide (0<=xa)&&decide (xa<=(b.parts.length:Int)-1))=false:=by
     cases hd:(decide (0<=xa)&&decide (xa<=(b.parts.length:Int)-1))with
     |false=>rfl
     |true=>exact absurd (by simpa using hd) h1
    have UZ:Hid (¬(0<=xa/\xa<=(b.parts.length:Int)-1)):=h1;clear h1;go_wp2_with(go_at_call 92;refine(ci _ _ _ _).mono ?_;rw[e1];rintro e w' ⟨rfl,rfl⟩)
    go_ret;exact aV.mk (r:=6) (Dv.out.trans (bS hN.out (IB HX.out fun h=>UZ.out h.1) (by decide) sY.out)).symm HA.out
  .have ek:k=b.apart.length:=by omega
   subst ek;go_wp2
   go_ret;exact aV.mk (r:=0) (Dv.out.trans hN.out).symm (Below.boxed hB.out)
theorem uS {b:an} (h:eS b) (p q:Int):(min p q,max p q)∈b.apart↔Apart b.apart p q:=by
 constructor
 .intro hm;refine⟨_,hm,?_⟩;by_cases e:p<=q
  .left;simp only;omega
  .right;simp only;omega
 .rintro⟨⟨x,y⟩,hm,hx⟩;obtain⟨j,hj,nk⟩:=List.getElem_of_mem hm;have hle:=(h.all j _ hj (by rw[List.getElem?_eq_getElem hj,nk])).1.le
  have:(min p q,max p q)=(x,y):=by
   rcases hx with⟨rfl,rfl⟩|⟨rfl,rfl⟩<;>simp only at*<;>ext<;>simp only<;>omega
  rw[this];exact hm
theorem na (w:World) (v:Value) (b:an) (p q:Int) (hb:ap w v b) (h:eS b):
 Calls ZP 100 #[v,.int .i64 p,.int .i64 q] w (cn w fun r=>Tr r (Apart b.apart p q)):=by
 obtain⟨v2,v3,v4,rfl,h2,RS,h4⟩:=hb;obtain⟨a2,c2,⟨rfl,_,_,_,_⟩,_⟩:=h2;obtain⟨a4,c4,⟨rfl,_,_,_,_⟩,_⟩:=h4;have hP0:=RS;obtain⟨a3,c3,⟨rfl,_,_,_,_⟩,_⟩:=hP0;have RS:=RS.later (Kp.alloc w (.cells #[.int .i64 b.ah,.int .i64 b.places,.slice a2 b.parts.length c2,.slice a3 b.apart.length c3,.slice a4 b.aa.length c4] 84));by_cases hqp:q<p
 .have hC:=dg _ _ _ q p RS
  have hI:(q,p)∈b.apart↔Apart b.apart p q:=by
   have:=uS h p q;rwa [show min p q=q by omega,show max p q=p by omega]at this
  have zg0:¬p<q:=by omega
  go_enter ZF100,Tryz.ntmps100
  go_wp2_with(go_at_call 122;refine hC.mono ?_;rintro e w1 ⟨⟨r,rfl,hr⟩,bi⟩;cases r)
  .go_ret;exact cn.mk (Tr.no fun ha=>hr.f (hI.2 ha)) (Below.step (Below.refl _ _) (Nat.le_refl _) bi)
  .go_ret;exact cn.mk (Tr.yes (hI.1 hr.t)) (Below.step (Below.refl _ _) (Nat.le_refl _) bi)
 .have hI:(p,q)∈b.apart↔Apart b.apart p q:=by
   have:=uS h p q;rwa [show min p q=p by omega,show max p q=q by omega]at this
  by_cases hpq:p<q
  .have hC:=dg _ _ _ p q RS;go_enter ZF100,Tryz.ntmps100
   go_wp2_with(go_at_call 122;refine hC.mono ?_;rintro e w1 ⟨⟨r,rfl,hr⟩,bi⟩;cases r)
   .go_ret;exact cn.mk (Tr.no fun ha=>hr.f (hI.2 ha)) (Below.step (Below.refl _ _) (Nat.le_refl _) bi)
   .go_ret;exact cn.mk (Tr.yes (hI.1 hr.t)) (Below.step (Below.refl _ _) (Nat.le_refl _) bi)
  .obtain rfl:p=q:=by omega
   have hC:=dg _ _ _ p p RS;go_enter ZF100,Tryz.ntmps100
   go_wp2_with(go_at_call 122;refine hC.mono ?_;rintro e w1 ⟨⟨r,rfl,hr⟩,bi⟩;cases r)
   .go_ret;exact cn.mk (Tr.no fun ha=>hr.f (hI.2 ha)) (Below.step (Below.refl _ _) (Nat.le_refl _) bi)
   .go_ret;exact cn.mk (Tr.yes (hI.1 hr.t)) (Below.step (Below.refl _ _) (Nat.le_refl _) bi)
theorem pu.Qm {w w1:World} {v0 v1 v2 v3 v4:Value} {t:Nat} (h:Below (w.heap.size+1) (w.alloc (.cells #[v0,v1,v2,v3,v4] t)) w1):pu w1 w.heap.size v0 v1 v2 v3 v4:=
 ⟨boxed h 0,boxed h 1,boxed h 2,boxed h 3,boxed h 4⟩
theorem IF (w:World) (g n c:Nat) (a:Option Addr) (k:Int) (hn:1<=n/\n<=5) (hg:w.cell? ⟨g,2,none⟩=some (.slice a n c)):
 Calls ZP 99 #[.int .i64 k,.pointer (some ⟨g,0,none⟩)] w (cM w fun r=>Tr r (¬(0<=k/\k<=(n:Int)-1))):=by
 have kK:wrap64 ((n:Int)-1)=n-1:=by unfold wrap64;omega
 go_enter ZF99,Tryz.ntmps99
 go_wp2_with(go_at_call 92;refine(iJ _ _ _ _).mono ?_;rintro e w' ⟨r,rfl,hr,rfl⟩;cases r)
 .go_ret;exact cM.mk (Tr.yes hr.f)
 .go_ret;exact cM.mk (Tr.no fun h=>h hr.t)
theorem zh (w:World) (v:Value) (l:List Int) (g n c:Nat) (a:Option Addr) (h:ao w v l) (hn:1<=n/\n<=5) (hg:w.cell? ⟨g,2,none⟩=some (.slice a n c)):
 Calls ZP 121 #[v,.func (.func 99) #[] #[.pointer (some ⟨g,0,none⟩)]] w (fun e w'=>∃r,e=.returned (.int .i64 r)/\(0<=r↔¬kI l n l.length)/\w'=w):=by
 obtain⟨a1,c1,h1,h2⟩:=h;have H:Hid (bA w v l.length a1 c1/\_):=⟨h1,h2⟩
 have HG:Hid (w.cell? ⟨g,2,none⟩=some (.slice a n c)):=hg;obtain⟨rfl,l1,m1,n1,r1⟩:=h1;unfold maxLen at m1;clear h2 n1 r1 hg;go_enter ZF121,Tryz.ntmps121
 go_wp2
 go_loop [8,5] (fun i j=>∃k:Nat,k<=l.length/\Hid (kI l n k)/\i=.int .i64 k) (fun i _=>l.length-(intOf i).toNat)
 case atStart=>exact⟨0,Nat.zero_le _,kI.zero _ _,rfl⟩
 case round=>
  obtain⟨k,kF,hN,rfl⟩:=hrel;by_cases au:k<l.length
  .obtain⟨⟨blk,off,sp⟩,y,rfl,hy,y0⟩:=H.out.1.elem H.out.2 au;obtain rfl:sp=none:=y0.1;have g0:=y0.2;simp only at g0;have HY:Hid (l[k]?=some y):=hy;have sY:Hid (k<l.length):=au;have iO:(k:Int)<(l.length:Int):=by omega
   clear y0 hy
   go_wp2_with
    (go_at_call 99
     refine(IF _ _ _ _ _ _ hn HG.out).mono ?_;rintro e w' ⟨r,rfl,hr,rfl⟩;cases r)
   .have HI:Hid (0<=y/\y<=(n:Int)-1):=Classical.not_not.1 hr.f;clear hr;go_round
    case rel=>exact⟨k+1,by omega,hN.out.succ HY.out HI.out,by go_num⟩
    case measure=>simp[intOf];omega
   .have HI:Hid (¬(0<=y/\y<=(n:Int)-1)):=hr.t;clear hr;go_ret;exact⟨_,rfl,⟨fun _ h=>HI.out (h k y sY.out HY.out),fun _=>Int.natCast_nonneg _⟩,rfl⟩
  .have ek:k=l.length:=by omega
   subst ek;go_wp2
   go_ret;exact⟨-1,rfl,⟨fun h=>absurd h (by decide),fun h=>absurd hN.out h⟩,rfl⟩
theorem zi (w:World) (v:Value) (l:List Int) (g n c:Nat) (a:Option Addr) (h:ao w v l) (hn:1<=n/\n<=5) (hg:w.cell? ⟨g,2,none⟩=some (.slice a n c)):
 Calls ZP 98 #[v,.func (.func 99) #[] #[.pointer (some ⟨g,0,none⟩)]] w (cM w fun r=>Tr r (¬kI l n l.length)):=by
 go_enter ZF98,Tryz.ntmps98
 go_wp2_with
  (go_at_call 121
   refine(zh _ _ _ _ _ _ _ h hn hg).mono ?_;rintro e w1 ⟨r,rfl,hr,rfl⟩;have HR:Hid (0<=r↔¬kI l n l.length):=hr;clear hr)
 go_ret;refine cM.mk ?_;unfold Tr;simp only[decide_eq_true_eq];exact HR.out
theorem uT (w:World) (v vl:Value) (b:an) (l:List Int) (hb:ap w v b) (hl:ao w vl l) (hp:1<=b.parts.length/\b.parts.length<=5) (LT:eS b):
 Calls ZP 66 #[v,vl] w (aV w fun s=>s=bI b l):=by
 have HB:Hid (ap w v b):=hb;have HI:Hid (ao w vl l):=hl;have Xp:Hid (eS b):=LT;obtain⟨v2,v3,v4,rfl,⟨a2,c2,h2,f2⟩,⟨a3,c3,⟨rfl,_,_,_,_⟩,_⟩,⟨a4,c4,⟨rfl,_,_,_,_⟩,_⟩⟩:=hb;obtain⟨al,cl,EQ,fl⟩:=hl;have H2:Hid (bA w v2 b.parts.length a2 c2/\_):=⟨h2,f2⟩
 have HL:Hid (bA w vl l.length al cl/\_):=⟨EQ,fl⟩
 obtain⟨rfl,l2,m2,n2,r2⟩:=h2;obtain⟨rfl,ll,ml,nl,rl⟩:=EQ;unfold maxLen at m2 ml;clear r2 f2 n2 rl fl nl LT;by_cases hlen:(l.length:Int)=b.places
 case neg=>
  have sj:Hid (¬(l.length:Int)=b.places):=hlen;go_enter ZF66,Tryz.ntmps66
  go_wp2
  go_ret;exact aV.mk (r:=2) (ke sj.out) ((Below.refl _ _).alloc (Nat.le_refl _) _)
 case pos=>
 have bu:((l.length:Int)!=b.places)=false:=by simp[hlen]
 have sj:Hid ((l.length:Int)=b.places):=hlen
 have HO:=zi (w.alloc (.cells #[.int .i64 b.ah,.int .i64 b.places,.slice a2 b.parts.length c2,.slice a3 b.apart.length c3,.slice a4 b.aa.length c4] 84)) _ l w.heap.size b.parts.length c2 a2
  (HI.out.later (Kp.alloc w _)) hp (boxed (Below.refl _ _) 2)
 clear hlen;go_enter ZF66,Tryz.ntmps66
 go_wp2_with
  (go_at_call 98
   refine HO.mono ?_;rintro e w' ⟨r,rfl,hr,rfl⟩;cases r)
 rotate_left
 .have HR:=hr.t;go_ret;exact aV.mk (r:=6) (lG sj.out HR) ((Below.refl _ _).alloc (Nat.le_refl _) _)
 have U1:Hid (kI l b.parts.length l.length):=Classical.not_not.1 hr.f;clear HO hr;go_loopw [20,5,6] (fun i u v w1=>∃k:Nat,k<=l.length/\i=.int .i64 k/\Hid (kB b l k)/\Hid (Below (w.heap.size+1) (w.alloc (.cells #[.int .i64 b.ah,.int .i64 b.places,.slice a2 b.parts.length c2,.slice a3 b.apart.length c3,.slice a4 b.aa.length c4] 84)) w1)) (fun i _ _ _=>l.length-(intOf i).toNat)
 case atStart=>exact⟨0,Nat.zero_le _,rfl,kB.zero _ _,Below.refl _ _⟩
 case round=>
  obtain⟨k,hk,rfl,hF,hB⟩:=hrel;have gg:=pu.Qm hB.out;by_cases au:k<l.length
  .obtain⟨⟨blk,off,sp⟩,x,rfl,hx,x0⟩:=HL.out.1.elem HL.out.2 au;obtain rfl:sp=none:=x0.1;obtain⟨xn,rfl⟩:=Int.eq_ofNat_of_zero_le (U1.out k x au hx).1;have hxr:=(U1.out k xn au hx).2;have xh:xn<b.parts.length:=by omega
   obtain⟨⟨pb,po,ps⟩,P,rfl,hP,_,_,_,_,_,vf,p5,JV⟩:=H2.out.1.elem H2.out.2 xh;obtain rfl:ps=none:=p5.1;have hf:=JV;obtain⟨af,cf,⟨rfl,_,_,_,_⟩,_⟩:=JV;have HX:Hid (l[k]?=some (xn:Int)):=hx;have sY:Hid (k<l.length):=au;have HPX:Hid (b.parts[(xn:Int).toNat]?=some P):=by rw[Int.toNat_natCast];exact hP
   have G0:=fun X:aj wr=>X.cell gg.c0;have G1:=fun X:aj wr=>X.cell gg.c1;have G2:=fun X:aj wr=>X.cell gg.c2;have G3:=fun X:aj wr=>X.cell gg.c3;have G4:=fun X:aj wr=>X.cell gg.c4;have y0:=(x0.later (Kp.boxed hB.out)).2;have Y5:=fun X:aj wr=>X.cell (p5.later (Kp.boxed hB.out)).2;simp only[<-Nat.add_assoc]at y0 Y5;have iO:(k:Int)<(l.length:Int):=by omega
   have hx2:(xn:Int)<(b.parts.length:Int):=by omega
   have hz:Hid (w.heap.size+1<=wr.heap.size):=by have:=hB.out.size;simp at this;exact(by omega:w.heap.size+1<=wr.heap.size)
   clear hx hP p5 gg;by_cases m6:(k:Int)∈P.fits
   .have qB:∀X:aj wr,Calls ZP 84 #[.slice af P.fits.length cf,.int .i64 k] X.1 (fun e fT=>e=.returned (.bool true)/\∃Y:aj wr,fT=Y.1):=fun X=>
     (kh _ _ _ k ((hf.later (Kp.boxed hB.out)).later X.kp)).mono fun e w' ⟨r,h1,h2,h3⟩=>⟨by rw[h1,h2.2 m6],X.same h3⟩
    have Xq:Hid ((k:Int)∈P.fits):=m6;clear m6;by_cases nt:0<k
    .obtain⟨b',z,Iv,NL,z0⟩:=HL.out.1.elem HL.out.2 (show k-1<l.length by omega);cases Iv;have Z0:=fun X:aj wr=>X.cell (z0.later (Kp.boxed hB.out)).2;simp only at Z0;have HZ:Hid (l[k-1]?=some z):=NL;have U2:Hid (0<k):=nt;have kF:wrap64 ((k:Int)-1)=((k-1:Nat):Int):=by unfold wrap64;omega
     have iN:(0:Int)<(k:Int):=by omega
     have kA:((k-1:Nat):Int)<(l.length:Int):=by omega
     clear z0 NL x0;by_cases qC:Apart b.apart z xn
     .have HAP:Hid (Apart b.apart z xn):=qC
      have m7:∀X:aj wr,Calls ZP 100 #[.agg #[.int .i64 b.ah,.int .i64 b.places,.slice (some ⟨pb,po,none⟩) b.parts.length c2,.slice a3 b.apart.length c3,.slice a4 b.aa.length c4],.int .i64 z,.int .i64 xn] X.1 (fun e fT=>e=.returned (.bool true)/\∃Y:aj wr,fT=Y.1):=fun X=>
       (na _ _ _ _ _ ((HB.out.later (Kp.boxed hB.out)).later X.kp) Xp.out).mono fun e w' ⟨⟨r,h1,h2⟩,h3⟩=>⟨by cases r with
         |true=>exact h1
         |false=>exact absurd qC h2.f,X.on h3⟩
      clear qC;go_wp2
      refine am (by kernel_rfl) (by kernel_rfl) ?_;repeat(go_big_quiet_step (first|(go_at_call 84;exact qB _)|(go_at_call 100;exact m7 _)))
      refine wpQuiet_nil ?_;rintro _ ⟨X,rfl⟩;go_wp2
      go_ret;exact aV.mk (r:=3) (fE sj.out U1.out fun h=>(h k _ sY.out HX.out).Rj U2.out z HZ.out HAP.out) (Below.boxed (hB.out.trans (X.2.mono hz.out)))
     .have HAP:Hid (¬Apart b.apart z xn):=qC
      have m7:∀X:aj wr,Calls ZP 100 #[.agg #[.int .i64 b.ah,.int .i64 b.places,.slice (some ⟨pb,po,none⟩) b.parts.length c2,.slice a3 b.apart.length c3,.slice a4 b.aa.length c4],.int .i64 z,.int .i64 xn] X.1 (fun e fT=>e=.returned (.bool false)/\∃Y:aj wr,fT=Y.1):=fun X=>
       (na _ _ _ _ _ ((HB.out.later (Kp.boxed hB.out)).later X.kp) Xp.out).mono fun e w' ⟨⟨r,h1,h2⟩,h3⟩=>⟨by cases r with
         |false=>exact h1
         |true=>exact absurd h2.t qC,X.on h3⟩
      clear qC;go_wp2
      refine am (by kernel_rfl) (by kernel_rfl) ?_;repeat(go_big_quiet_step (first|(go_at_call 84;exact qB _)|(go_at_call 100;exact m7 _)))
      refine wpQuiet_nil ?_;rintro _ ⟨X,rfl⟩;go_wp2
      go_round
      case rel=>exact⟨k+1,by omega,by go_num,hF.out.succ HX.out ⟨⟨P,HPX.out,Xq.out⟩,fun _ y hy=>by rw[HZ.out]at hy;cases hy;exact HAP.out⟩,hB.out.trans (X.2.mono hz.out)⟩
      case measure=>simp[intOf];omega
    .have iN:¬(0:Int)<(k:Int):=by omega
     have U2:Hid (¬0<k):=nt;clear x0;go_wp2
     refine am (by kernel_rfl) (by kernel_rfl) ?_;repeat(go_big_quiet_step (first|(go_at_call 84;exact qB _)))
     refine wpQuiet_nil ?_;rintro _ ⟨X,rfl⟩;go_wp2
     go_round
     case rel=>exact⟨k+1,by omega,by go_num,hF.out.succ HX.out ⟨⟨P,HPX.out,Xq.out⟩,fun h=>absurd h U2.out⟩,hB.out.trans (X.2.mono hz.out)⟩
     case measure=>simp[intOf];omega
   .have qB:∀X:aj wr,Calls ZP 84 #[.slice af P.fits.length cf,.int .i64 k] X.1 (fun e fT=>e=.returned (.bool false)/\∃Y:aj wr,fT=Y.1):=fun X=>
     (kh _ _ _ k ((hf.later (Kp.boxed hB.out)).later X.kp)).mono fun e w' ⟨r,h1,h2,h3⟩=>⟨by cases r with
       |false=>exact h1
       |true=>exact absurd h2.t m6,X.same h3⟩
    have Xq:Hid (¬(k:Int)∈P.fits):=m6;clear m6 x0;go_wp2
    refine am (by kernel_rfl) (by kernel_rfl) ?_;repeat(go_big_quiet_step (first|(go_at_call 84;exact qB _)))
    refine wpQuiet_nil ?_;rintro _ ⟨X,rfl⟩;go_wp2
    go_ret
    exact aV.mk (r:=3) (fE sj.out U1.out fun h=>by
     obtain⟨P',RP,hm⟩:=(h k _ sY.out HX.out).fits;rw[HPX.out]at RP;cases RP;exact Xq.out hm) (Below.boxed (hB.out.trans (X.2.mono hz.out)))
  .clear gg;have ek:k=l.length:=by omega
   subst ek;go_wp2
   go_ret;exact aV.mk (r:=0) (jb ⟨sj.out,U1.out,hF.out⟩) (Below.boxed hB.out)
theorem zk (w:World) (v:Value) (b:an) (hb:ap w v b) (hp:1<=b.parts.length/\b.parts.length<=5) (LT:eS b):Calls ZP 158 #[v] w (aV w fun s=>s=cY b):=by
 have HB:Hid (ap w v b):=hb;have Xp:Hid (eS b):=LT;obtain⟨v2,v3,v4,rfl,⟨a2,c2,⟨rfl,_,_,_,_⟩,_⟩,⟨a3,c3,⟨rfl,_,_,_,_⟩,_⟩,⟨a4,c4,h4,f4⟩⟩:=hb;have H4:Hid (bA w v4 b.aa.length a4 c4/\_):=⟨h4,f4⟩
 obtain⟨rfl,l4,m4,n4,r4⟩:=h4;unfold maxLen at m4;clear r4 f4 n4 LT;by_cases xA:(4:Int)<(b.aa.length:Int)
 .go_enter ZF158,Tryz.ntmps158
  go_wp2
  go_ret;exact aV.mk (r:=2) (by unfold cY;rw[if_neg (by omega)]) ((Below.refl _ _).alloc (Nat.le_refl _) _)
 have HTS:Hid (cY b=scan (df b) b.aa.length):=zg (by omega);go_enter ZF158,Tryz.ntmps158
 go_wp2
 go_loopw [15,4] (fun i u w1=>∃k:Nat,k<=b.aa.length/\i=.int .i64 k/\Hid (scan (df b) k=0)/\Hid (Below (w.heap.size+1) (w.alloc (.cells #[.int .i64 b.ah,.int .i64 b.places,.slice a2 b.parts.length c2,.slice a3 b.apart.length c3,.slice a4 b.aa.length c4] 84)) w1)) (fun i _ _=>b.aa.length-(intOf i).toNat)
 case atStart=>exact⟨0,Nat.zero_le _,rfl,rfl,Below.refl _ _⟩
 case round=>
  obtain⟨k,hk,rfl,hN,hB⟩:=hrel;obtain⟨s0,s1,s2,s3,s4⟩:=pu.Qm hB.out;by_cases au:k<b.aa.length
  .obtain⟨⟨blk,off,sp⟩,t,rfl,hx,⟨vf,x0,hf⟩,x1,x2⟩:=H4.out.1.elem H4.out.2 au;obtain rfl:sp=none:=x0.1;have CJ:=hf;obtain⟨af,cf,⟨rfl,_,_,_,_⟩,_⟩:=hf;have HX:Hid (b.aa[k]?=some t):=hx;have sY:Hid (k<b.aa.length):=au;have kM:w.heap.size+1<=wr.heap.size:=by have:=hB.out.size;simp at this;omega
   have hz:Hid (w.heap.size+1<=wr.heap.size):=kM;have s0':∀o,(wr.alloc o).cell? ⟨w.heap.size,0,none⟩=some (.int .i64 b.ah):=fun o=>(dU (by show w.heap.size<_;omega) o).trans s0;have s1':∀o,(wr.alloc o).cell? ⟨w.heap.size,1,none⟩=some (.int .i64 b.places):=fun o=>(dU (by show w.heap.size<_;omega) o).trans s1;have s2':∀o,(wr.alloc o).cell? ⟨w.heap.size,2,none⟩=some (.slice a2 b.parts.length c2):=fun o=>(dU (by show w.heap.size<_;omega) o).trans s2;have s3':∀o,(wr.alloc o).cell? ⟨w.heap.size,3,none⟩=some (.slice a3 b.apart.length c3):=fun o=>(dU (by show w.heap.size<_;omega) o).trans s3;have s4':∀o,(wr.alloc o).cell? ⟨w.heap.size,4,none⟩=some (.slice (some ⟨blk,off,none⟩) b.aa.length c4):=fun o=>(dU (by show w.heap.size<_;omega) o).trans s4;have y0:=(x0.later (Kp.boxed hB.out)).2;have y1:=(x1.later (Kp.boxed hB.out)).2;have y2:=(x2.later (Kp.boxed hB.out)).2;simp only[<-Nat.add_assoc]at y0 y1 y2;have iO:(k:Int)<(b.aa.length:Int):=by omega
   have hC:=uT (wr.alloc (.cells #[.slice af t.parts.length cf,.int .i64 t.lo,.int .i64 t.hi] 65)) _ _ _ _ ((HB.out.later (Kp.boxed hB.out)).later (Kp.alloc wr _)) ((CJ.later (Kp.boxed hB.out)).later (Kp.alloc wr _)) hp Xp.out;obtain⟨mb,Qg⟩:∃mb,bI b t.parts=mb:=⟨_,rfl⟩
   have HMB:Hid (bI b t.parts=mb):=Qg;rw[Qg]at hC;clear CJ x0 x1 x2 hx Qg;by_cases DY:mb=0
   .subst DY;have HMO:Hid (cN b t.parts):=cX.1 HMB.out
    go_wp2_with(first
     |(go_at_call 66
       refine hC.mono ?_;rintro e w1 ⟨⟨r,rfl,rfl⟩,bi⟩;have B1:Hid (Below (w.heap.size+1) _ w1):=hB.out.step kM bi;have p1:=eL bi 1;have p2:=eL bi 2;simp only[List.getElem?_toArray,List.getElem?_cons_succ,List.getElem?_cons_zero]at p1 p2)
     |(go_at_call 77;refine(sf _ _ _ _ _ (by omega) _).mono ?_;rintro e w' ⟨r,rfl,hr,rfl⟩;cases r))
    .have HR:Hid (¬(0<=t.lo/\t.lo<=t.hi/\t.hi<=99)):=fun h=>hr.f ⟨h.1,h.2.1,h.2.2,by omega⟩;go_ret;exact aV.mk (r:=1) (HTS.out.trans (bS hN.out (LQ HX.out HMO.out HR.out) (by decide) sY.out)).symm (Below.boxed (Below.alloc B1.out (by have:=B1.out.size;simpa using this) _))
    .have NO:Hid (oq b t):=⟨HMO.out,hr.t.1,hr.t.2.1,hr.t.2.2.1⟩
     clear hr;go_round
     case rel=>exact⟨k+1,by omega,by go_num,lW hN.out (Du HX.out NO.out),(Below.alloc B1.out (by have:=B1.out.size;simpa using this) _:Below _ _ _)⟩
     case measure=>simp[intOf];omega
   .have NN:Hid (mb≠0):=DY
    go_wp2_with
     (go_at_call 66
      refine hC.mono ?_;rintro e w1 ⟨⟨r,rfl,rfl⟩,bi⟩;have B1:Hid (Below (w.heap.size+1) _ w1):=hB.out.step kM bi)
    go_ret;exact aV.mk (HTS.out.trans (bS hN.out ((LR HX.out (by rw[HMB.out];exact NN.out)).trans HMB.out) NN.out sY.out)).symm (Below.boxed B1.out)
  .have ek:k=b.aa.length:=by omega
   subst ek;go_wp2
   go_ret;exact aV.mk (r:=0) (HTS.out.trans hN.out).symm (Below.boxed hB.out)
theorem IG (w:World) (v vl:Value) (b:an) (l:List Int) (hb:ap w v b) (hl:ao w vl l) (hp:1<=b.parts.length/\b.parts.length<=5) (LT:eS b) (jA:cN b l):
 Calls ZP 66 #[v,vl] w (aV w fun s=>s=0):=
 (uT w v vl b l hb hl hp LT).mono fun _ _ ⟨⟨r,h1,h2⟩,h3⟩=>⟨⟨r,h1,h2.trans (cX.2 jA)⟩,h3⟩
structure Chk (w:World):Prop where
 c0:w.cell? ⟨0,0,none⟩=some (.func (.func 155) #[] #[])
 c1:w.cell? ⟨0,1,none⟩=some (.func (.func 156) #[] #[])
 c2:w.cell? ⟨0,2,none⟩=some (.func (.func 157) #[] #[])
 c3:w.cell? ⟨0,3,none⟩=some (.func (.func 158) #[] #[])
theorem Chk.on {w:World} (h:Chk w) (X:aj w):Chk X.1:=⟨X.cell h.c0,X.cell h.c1,X.cell h.c2,X.cell h.c3⟩
theorem Chk.later {w w':World} (h:Chk w) (k:Below w.heap.size w w'):Chk w':=h.on ⟨w',k⟩
section
variable (w:World)
theorem zaV:(Instr.index 136 (.agg #[.func (.func 155) #[] #[],.func (.func 156) #[] #[],.func (.func 157) #[] #[],.func (.func 158) #[] #[]]) (.int .i64 0)).run ZP w=.ok (.func (.func 155) #[] #[]) w:=by
 have u:ZP.underlying 136=some (.array 4 96):=by rw[Tz.under];exact Tryz.underlying136
 have a3:=Tryz.isAgg96;have z3:=Tryz.sizeOf96;simp[Instr.index,run_underlying u,asIntOf,part,go_sem,a3,z3]
theorem zaW:(Instr.index 136 (.agg #[.func (.func 155) #[] #[],.func (.func 156) #[] #[],.func (.func 157) #[] #[],.func (.func 158) #[] #[]]) (.int .i64 1)).run ZP w=.ok (.func (.func 156) #[] #[]) w:=by
 have u:ZP.underlying 136=some (.array 4 96):=by rw[Tz.under];exact Tryz.underlying136
 have a3:=Tryz.isAgg96;have z3:=Tryz.sizeOf96;simp[Instr.index,run_underlying u,asIntOf,part,go_sem,a3,z3]
theorem zaX:(Instr.index 136 (.agg #[.func (.func 155) #[] #[],.func (.func 156) #[] #[],.func (.func 157) #[] #[],.func (.func 158) #[] #[]]) (.int .i64 2)).run ZP w=.ok (.func (.func 157) #[] #[]) w:=by
 have u:ZP.underlying 136=some (.array 4 96):=by rw[Tz.under];exact Tryz.underlying136
 have a3:=Tryz.isAgg96;have z3:=Tryz.sizeOf96;simp[Instr.index,run_underlying u,asIntOf,part,go_sem,a3,z3]
theorem zaY:(Instr.index 136 (.agg #[.func (.func 155) #[] #[],.func (.func 156) #[] #[],.func (.func 157) #[] #[],.func (.func 158) #[] #[]]) (.int .i64 3)).run ZP w=.ok (.func (.func 158) #[] #[]) w:=by
 have u:ZP.underlying 136=some (.array 4 96):=by rw[Tz.under];exact Tryz.underlying136
 have a3:=Tryz.isAgg96;have z3:=Tryz.sizeOf96;simp[Instr.index,run_underlying u,asIntOf,part,go_sem,a3,z3]
end
section
variable {b:an}
theorem BO (h:bG b≠0):gm b=bG b:=by
 have h2:¬((1<=b.ah/\b.ah<=99)/\1<=b.places/\b.places<=4):=fun k=>h (dh.2 k);rw[jn h2];unfold gm;rw[if_neg h2]
theorem BP (h0:bG b=0) (h:bE b.places b.parts≠0):gm b=bE b.places b.parts:=by
 unfold gm;rw[if_pos (dh.1 h0),if_neg h]
theorem BQ (h0:bG b=0) (h1:bE b.places b.parts=0) (h:bT b.parts.length b.apart≠0):gm b=bT b.parts.length b.apart:=by
 unfold gm;rw[if_pos (dh.1 h0),if_pos h1,if_neg h]
theorem qd (h0:bG b=0) (h1:bE b.places b.parts=0) (h2:bT b.parts.length b.apart=0):gm b=cY b:=by
 unfold gm;rw[if_pos (dh.1 h0),if_pos h1,if_pos h2]
end
def U3 (b:an) (k:Int):Prop:=k=0\/(k=1/\bG b=0)\/(k=2/\bG b=0/\bE b.places b.parts=0)\/(k=3/\bG b=0/\bE b.places b.parts=0/\bT b.parts.length b.apart=0)\/(k=4/\gm b=0)
theorem zl (w:World) (v:Value) (b:an) (hb:ap w v b) (hs:lE b) (hc:Chk w):Calls ZP 44 #[v] w (aV w fun s=>s=gm b):=by
 have HB:Hid (ap w v b):=hb;have HS:Hid (lE b):=hs;obtain⟨v2,v3,v4,rfl,⟨a2,c2,⟨rfl,_,_,_,_⟩,_⟩,⟨a3,c3,⟨rfl,_,_,_,_⟩,_⟩,⟨a4,c4,⟨rfl,_,_,_,_⟩,_⟩⟩:=hb;obtain⟨k0,k1,k2,k3⟩:=hc.later ((Below.refl _ _).alloc (Nat.le_refl _) (.cells #[.int .i64 b.ah,.int .i64 b.places,.slice a2 b.parts.length c2,.slice a3 b.apart.length c3,.slice a4 b.aa.length c4] 26));clear hs hc;go_enter ZF44,Tryz.ntmps44
 go_wp2
 go_loopw [7,4,5] (fun i u v w1=>∃k:Int,Hid (U3 b k)/\i=.int .i64 k/\Hid (Below (w.heap.size+1) (w.alloc (.cells #[.int .i64 b.ah,.int .i64 b.places,.slice a2 b.parts.length c2,.slice a3 b.apart.length c3,.slice a4 b.aa.length c4] 26)) w1)) (fun i _ _ _=>4-(intOf i).toNat)
 case atStart=>exact⟨0,(.inl rfl:_\/_),rfl,Below.refl _ _⟩
 case round=>
  obtain⟨k,hk,rfl,hB⟩:=hrel;clear k0 k1 k2 k3;obtain⟨s0,s1,s2,s3,s4⟩:=pu.Qm hB.out;have bi:=HB.out.later (Kp.boxed hB.out);have hs:=hB.out.size;simp at hs;rcases hk.out with rfl|⟨rfl,ho⟩|⟨rfl,ho,hp⟩|⟨rfl,ho,hp,hq⟩|⟨rfl,hz⟩
  .have ix:=zaV wr;clear hk;go_wp2_with(go_at_call 155;refine(BJ _ _ _ bi).mono ?_;rintro e w1 ⟨⟨r,rfl,hr⟩,fP⟩;have HR:Hid (r=bG b):=hr;clear hr;by_cases h0:r=0)
   .go_round
    case rel=>exact⟨1,(.inr (.inl ⟨rfl,by rw[<-HR.out];exact h0⟩):U3 b 1),rfl,hB.out.trans (fP.mono hs)⟩
    case measure=>simp[intOf]
   .go_ret;exact aV.mk (HR.out.trans (BO (by rw[<-HR.out];exact h0)).symm) (Below.boxed (hB.out.trans (fP.mono hs)))
  .have ix:=zaW wr;have HO:Hid (bG b=0):=ho;have t8:=(dh.1 ho).2;clear hk ho;go_wp2_with(go_at_call 156;refine(BL _ _ _ bi HS.out t8).mono ?_;rintro e w1 ⟨⟨r,rfl,hr⟩,fP⟩;have HR:Hid (r=bE b.places b.parts):=hr;clear hr;by_cases h0:r=0)
   .go_round
    case rel=>exact⟨2,(.inr (.inr (.inl ⟨rfl,HO.out,by rw[<-HR.out];exact h0⟩)):U3 b 2),rfl,hB.out.trans (fP.mono hs)⟩
    case measure=>simp[intOf]
   .go_ret;exact aV.mk (HR.out.trans (BP HO.out (by rw[<-HR.out];exact h0)).symm) (Below.boxed (hB.out.trans (fP.mono hs)))
  .have ix:=zaX wr;have HO:Hid (bG b=0/\bE b.places b.parts=0):=⟨ho,hp⟩
   have IE:=(kg.1 hp).many;clear hk ho hp;go_wp2_with(go_at_call 157;refine(BN _ _ _ bi IE).mono ?_;rintro e w1 ⟨⟨r,rfl,hr⟩,fP⟩;have HR:Hid (r=bT b.parts.length b.apart):=hr;clear hr;by_cases h0:r=0)
   .go_round
    case rel=>exact⟨3,(.inr (.inr (.inr (.inl ⟨rfl,HO.out.1,HO.out.2,by rw[<-HR.out];exact h0⟩))):U3 b 3),rfl,hB.out.trans (fP.mono hs)⟩
    case measure=>simp[intOf]
   .go_ret;exact aV.mk (HR.out.trans (BQ HO.out.1 HO.out.2 (by rw[<-HR.out];exact h0)).symm) (Below.boxed (hB.out.trans (fP.mono hs)))
  .have ix:=zaY wr;have HO:Hid (bG b=0/\bE b.places b.parts=0/\bT b.parts.length b.apart=0):=⟨ho,hp,hq⟩
   have IE:=(kg.1 hp).many;have LT:=m8.1 hq;clear hk ho hp hq;go_wp2_with(go_at_call 158;refine(zk _ _ _ bi IE LT).mono ?_;rintro e w1 ⟨⟨r,rfl,hr⟩,fP⟩;have HR:Hid (r=cY b):=hr;clear hr;by_cases h0:r=0)
   .go_round
    case rel=>exact⟨4,(.inr (.inr (.inr (.inr ⟨rfl,(qd HO.out.1 HO.out.2.1 HO.out.2.2).trans (by rw[<-HR.out];exact h0)⟩))):U3 b 4),rfl,hB.out.trans (fP.mono hs)⟩
    case measure=>simp[intOf]
   .go_ret;exact aV.mk (HR.out.trans (qd HO.out.1 HO.out.2.1 HO.out.2.2).symm) (Below.boxed (hB.out.trans (fP.mono hs)))
  .have HZ:Hid (gm b=0):=hz;clear hk hz;go_wp2
   go_ret;exact aV.mk (r:=0) HZ.out.symm (Below.boxed hB.out)
theorem zm {b:an} (h:Valid b):lE b:=fun j x hj hx=>by
 have:=(h.parts.all j x hj hx).1.name.2.1;omega
theorem nf (w:World) (v:Value) (b:an) (hb:ap w v b) (hv:Valid b) (hc:Chk w):Calls ZP 44 #[v] w (aV w fun s=>s=0):=
 (zl w v b hb (zm hv) hc).mono fun _ _ ⟨⟨r,h1,h2⟩,h3⟩=>⟨⟨r,h1,h2.trans (E8.2 hv)⟩,h3⟩
end Go.Proofs.Cz
