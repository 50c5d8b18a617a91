/- A part. Conditions: none. -/
import Derived.Test.YtboiakcocelkmaaGreatDoorT24
import Derived.Laws.IdiomStrings
set_option linter.all false
set_option maxHeartbeats 8000000
set_option maxRecDepth 100000
namespace Go.Proofs.Cz
open Go.RowKit
theorem AC (w:World) (s:ByteArray):∃cap w',(convert 9 197 (.string s)).run ZP w=.ok (.slice (some ⟨w.heap.size,0,none⟩) s.size cap) w'/\Below w.heap.size w w'/\∀j (hj:j<s.size),w'.cell? ⟨w.heap.size,j,none⟩=some (.int .u8 s[j].toNat):=by
 have u9:ZP.underlying 9=some .string:=by rw[Tz.under];exact Tryz.underlying9
 have u77:ZP.underlying 197=some (.slice 5):=by rw[Tz.under];exact Tryz.underlying197
 have u5:ZP.underlying 5=some (.int .u8):=by rw[Tz.under];exact Tryz.underlying5
 refine⟨_,_,run_bytes_of_string w 9 197 5 s u9 u77 u5,?_,?_⟩
 .exact Below.alloc (Below.drewN (Below.refl _ _) 1) (Nat.le_refl _) _
 .intro j hj;exact(World.cell?_alloc_mark _ _ _ _ _).trans (bytesRow_at s _ j hj)
end Go.Proofs.Cz
namespace Go.Proofs.Cz
open Go.RowKit
end Go.Proofs.Cz
namespace Go.RowKit
theorem Below.step {B:Nat} {a w w1:World} {o:Obj} (h:Below B a w) (hs:B<=w.heap.size) (k:Below (w.alloc o).heap.size (w.alloc o) w1):Below B a w1:=
 (Below.alloc h hs o).trans (k.mono (by simp;omega))
end Go.RowKit
namespace Go.Proofs.Cz
open Go.RowKit
variable {a:Option Addr} {cap k n:Nat} {w:World}
theorem eH {w1:World} {cs:Array Value} {t:Nat} (h:Below (w.alloc (.cells cs t)).heap.size (w.alloc (.cells cs t)) w1) (k:Nat):w1.cell? ⟨w.heap.size,k,none⟩=cs[k]?:=boxed h.iH k
theorem bB.take {v:Value} (h:bB w v n a cap) (hk:k<=n):bB w (.slice a k cap) k a cap:=
 ⟨rfl,Nat.le_trans hk h.le,h.Oh,h.nil,h.row⟩
theorem d9.take {l:List Part} (h:d9 w (.slice a n cap) l) (hk:k<=l.length):d9 w (.slice a k cap) (l.take k):=by
 obtain⟨a',jW,h1,h2⟩:=h;obtain⟨rfl,-,rfl⟩:a=a'/\_/\cap=jW:=by simpa using h1.eq
 have hl:(l.take k).length=k:=by simp;omega
 refine⟨a,cap,by rw[hl];exact h1.take hk,fun b e j x hj=>h2 b e j x ?_⟩;have od:j<k:=by have:=(List.getElem?_eq_some_iff.1 hj).1;omega
 rw[List.getElem?_take]at hj;simpa [od]using hj
theorem d8.take {l:List (Int×Int)} (h:d8 w (.slice a n cap) l) (hk:k<=l.length):d8 w (.slice a k cap) (l.take k):=by
 obtain⟨a',jW,h1,h2⟩:=h;obtain⟨rfl,-,rfl⟩:a=a'/\_/\cap=jW:=by simpa using h1.eq
 have hl:(l.take k).length=k:=by simp;omega
 refine⟨a,cap,by rw[hl];exact h1.take hk,fun b e j x hj=>h2 b e j x ?_⟩;have od:j<k:=by have:=(List.getElem?_eq_some_iff.1 hj).1;omega
 rw[List.getElem?_take]at hj;simpa [od]using hj
end Go.Proofs.Cz
namespace Go.Proofs.Cz
open Go.RowKit
theorem vF (w:World) (s:ByteArray) (hs:s.size<=maxLen):Calls ZP 172 #[.string s] w (dF w fun r=>Tr r (iN s)):=by
 unfold maxLen at hs;obtain⟨cap,w1,ud,hb,hc⟩:=AC w s;have HB:=hid hb;have HC:=hid hc;clear hb hc;go_enter ZF172,Tryz.ntmps172
 go_wp2
 go_loop [8,3,4] (fun i u v=>∃k:Nat,k<=s.size/\Hid (mm s k)/\i=.int .i64 k) (fun i _ _=>s.size-(intOf i).toNat)
 case atStart=>exact⟨0,Nat.zero_le _,(fun j hj h=>absurd h (Nat.not_lt_zero j):mm s 0),rfl⟩
 case round=>
  obtain⟨k,hk,hN,rfl⟩:=hrel;by_cases az:k<s.size
  .have y0:=HC.o k az;have pR:(k:Int)<(s.size:Int):=by omega
   by_cases hl:rE (s[k].toNat)
   .have HL:=hid hl;obtain⟨a1,a2⟩:=hl;go_wp2
    go_round
    case rel=>exact⟨k+1,by omega,hN.o.succ az (.inl HL.o),by go_num⟩
    case measure=>simp[intOf];omega
   .have HL:=hid hl;by_cases hd:0<k/\xY (s[k].toNat)
    .have HD:=hid hd;obtain⟨oU,a1,a2⟩:=hd;have pw:(0:Int)<(k:Int):=by omega
     have a3:¬(97:Int)<=s[k].toNat:=by omega
     clear hl;go_wp2
     go_round
     case rel=>exact⟨k+1,by omega,hN.o.succ az (.inr HD.o),by go_num⟩
     case measure=>simp[intOf];omega
    .have Kj:Hid (¬iN s):=fun h=>by
      rcases h.2.2 k az az with h1|h1
      .exact hl h1
      .exact hd h1
     by_cases b1:(97:Int)<=s[k].toNat
     .have b2:¬(s[k].toNat:Int)<=122:=fun h=>hl ⟨b1,h⟩;by_cases oU:0<k
      .have pw:(0:Int)<(k:Int):=by omega
       have b4:(48:Int)<=s[k].toNat:=by omega
       have b5:¬(s[k].toNat:Int)<=57:=by omega
       clear hl hd ud;go_wp2
       go_ret;exact dF.mk (r:=false) ⟨(fun h=>by cases h),fun h=>absurd h Kj.o⟩ HB.o
      .have pw:¬(0:Int)<(k:Int):=by omega
       clear hl hd ud;go_wp2
       go_ret;exact dF.mk (r:=false) ⟨(fun h=>by cases h),fun h=>absurd h Kj.o⟩ HB.o
     .by_cases oU:0<k
      .have pw:(0:Int)<(k:Int):=by omega
       by_cases b4:(48:Int)<=s[k].toNat
       .have b5:¬(s[k].toNat:Int)<=57:=fun h=>hd ⟨oU,b4,h⟩;clear hl hd ud;go_wp2
        go_ret;exact dF.mk (r:=false) ⟨(fun h=>by cases h),fun h=>absurd h Kj.o⟩ HB.o
       .clear hl hd ud;go_wp2
        go_ret;exact dF.mk (r:=false) ⟨(fun h=>by cases h),fun h=>absurd h Kj.o⟩ HB.o
      .have pw:¬(0:Int)<(k:Int):=by omega
       clear hl hd ud;go_wp2
       go_ret;exact dF.mk (r:=false) ⟨(fun h=>by cases h),fun h=>absurd h Kj.o⟩ HB.o
  .have ek:k=s.size:=by omega
   subst ek;clear ud;go_wp2_with(go_at_call 66;refine(ic _ _ _ _).mono ?_;rintro e w' ⟨r,rfl,hr,rfl⟩)
   go_ret;exact dF.mk (r:=r) ⟨fun h=>by have:=hr.1 h;exact⟨by omega,by omega,hN.o⟩,fun h=>hr.2 ⟨by have:=h.1;omega,by have:=h.2.1;omega⟩⟩ HB.o
theorem sX (w:World) (g:Nat) (n1 nm:ByteArray) (a b c d:Int) (vf:Value) (af:Option Addr) (lf cf:Nat) (Ir:vf=.slice af lf cf) (hg:w.cell? ⟨g,0,none⟩=some (.string nm)):
 Calls ZP 174 #[.agg #[.string n1,.int .i64 a,.int .i64 b,.int .i64 c,.int .i64 d,vf],.pointer (some ⟨g,0,none⟩)] w (dF w fun r=>Tr r (n1=nm)):=by
 subst Ir;have zm:=(Kp.alloc w (.cells #[.string n1,.int .i64 a,.int .i64 b,.int .i64 c,.int .i64 d,.slice af lf cf] 48))
 have zh:(w.alloc (.cells #[.string n1,.int .i64 a,.int .i64 b,.int .i64 c,.int .i64 d,.slice af lf cf] 48)).cell? ⟨g,0,none⟩=some (.string nm):=
  (ah.cell ⟨_,(Below.refl _ _).alloc (Nat.le_refl _) _⟩ hg:_)
 clear zm;by_cases e:n1=nm
 .subst e;have hd:(n1.toList==n1.toList)=true:=by simp
  go_enter ZF174,Tryz.ntmps174
  go_wp2
  go_ret;exact dF.mk (r:=true) (by unfold Tr;simp) ((Below.refl _ _).alloc (Nat.le_refl _) _)
 .have hd:(n1.toList==nm.toList)=false:=by
   cases hh:(n1.toList==nm.toList)with
   |false=>rfl
   |true=>exact absurd (Ce hh) e
  have HE:Hid (n1≠nm):=e;clear e;go_enter ZF174,Tryz.ntmps174
  go_wp2
  go_ret;exact dF.mk (r:=false) ⟨(fun h=>by cases h),fun h=>absurd h HE.o⟩ ((Below.refl _ _).alloc (Nat.le_refl _) _)
theorem vG (w:World) (v:Value) (l:List Part) (g:Nat) (nm:ByteArray) (h:d9 w v l) (hg:w.cell? ⟨g,0,none⟩=some (.string nm)):
 Calls ZP 175 #[v,.func (.func 174) #[] #[.pointer (some ⟨g,0,none⟩)]] w (aT w fun r=>r=-1/\fN l nm l.length\/0<=r/\∃i y,i<l.length/\l[i]?=some y/\y.name=nm):=by
 obtain⟨a,c,h1,h2⟩:=h;have H:Hid (bB w v l.length a c/\_):=⟨h1,h2⟩
 have HG:=hid hg;obtain⟨rfl,l1,m1,n1,r1⟩:=h1;unfold maxLen at m1;clear h2 n1 r1 hg;go_enter ZF175,Tryz.ntmps175
 go_wp2
 go_loopw [8,5] (fun i j w1=>∃k:Nat,k<=l.length/\Hid (fN l nm k)/\i=.int .i64 k/\Hid (Below w.heap.size w w1)) (fun i _ _=>l.length-(intOf i).toNat)
 case atStart=>exact⟨0,Nat.zero_le _,fN.zero _ _,rfl,Below.refl _ _⟩
 case round=>
  obtain⟨k,hk,hN,rfl,hB⟩:=hrel;by_cases az:k<l.length
  .obtain⟨⟨blk,off,sp⟩,x,rfl,hx,x0,x1,x2,x3,x4,vf,x5,x6⟩:=H.o.1.elem H.o.2 az;obtain rfl:sp=none:=x0.1;obtain⟨af,cf,hf,_⟩:=x6;obtain⟨rfl,lf,mf,_,_⟩:=hf;have y0:=(x0.later (Kp.of hB.o)).2;have y1:=(x1.later (Kp.of hB.o)).2;have y2:=(x2.later (Kp.of hB.o)).2;have y3:=(x3.later (Kp.of hB.o)).2;have y4:=(x4.later (Kp.of hB.o)).2;have y5:=(x5.later (Kp.of hB.o)).2;simp only[<-Nat.add_assoc]at y0 y1 y2 y3 y4 y5;have pR:(k:Int)<(l.length:Int):=by omega
   have hgr:=ah.cell ⟨wr,hB.o⟩ HG.o;have HX:=hid hx;clear x0 x1 x2 x3 x4 x5 hx
   go_wp2_with
    (go_at_call 174
     refine(sX _ _ _ _ _ _ _ _ _ _ _ _ rfl hgr).mono ?_;rintro e w1 ⟨⟨r,rfl,hr⟩,bu⟩;cases r)
   .go_round
    case rel=>exact⟨k+1,by omega,hN.o.succ HX.o hr.f,by go_num,hB.o.trans (bu.mono hB.o.size)⟩
    case measure=>simp[intOf];omega
   .go_ret;exact aT.mk (r:=(k:Int)) (.inr ⟨by omega,k,x,az,HX.o,hr.t⟩) (hB.o.trans (bu.mono hB.o.size))
  .have ek:k=l.length:=by omega
   subst ek;go_wp2
   go_ret;exact aT.mk (r:=-1) (.inl ⟨rfl,hN.o⟩) hB.o
theorem vH (w:World) (v:Value) (l:List Part) (g:Nat) (nm:ByteArray) (h:d9 w v l) (hg:w.cell? ⟨g,0,none⟩=some (.string nm)):
 Calls ZP 173 #[v,.func (.func 174) #[] #[.pointer (some ⟨g,0,none⟩)]] w (dF w fun r=>Tr r (∃i y,i<l.length/\l[i]?=some y/\y.name=nm)):=by
 go_enter ZF173,Tryz.ntmps173
 go_wp2_with
  (go_at_call 175
   refine(vG _ _ _ _ _ h hg).mono ?_;rintro e w1 ⟨⟨r,rfl,hr⟩,bu⟩;have HR:=hid hr;clear hr)
 go_ret;refine dF.mk ?_ bu;unfold Tr;rcases HR.o with⟨rfl,h⟩|⟨h0,h⟩
 .simp only[decide_eq_true_eq];exact⟨fun h1=>by omega,fun⟨i,y,hi,hy,e⟩=>absurd e (h i y hi hy)⟩
 .exact⟨fun _=>h,fun _=>by simp;omega⟩
theorem cL.eq {w:World} {P:Bool->Prop} {v:Value} {r:Bool} (h:P r) (e:v=.bool r):cL w P (.returned v) w:=by subst e;exact .mk h
theorem DN (w:World) (v:Value) (l:List Int) (x:Int) (h:ae w v l):Calls ZP 118 #[v,.int .i64 x] w (fun e w'=>∃r,e=.returned (.int .i64 r)/\(0<=r↔x∈l)/\w'=w):=by
 obtain⟨a,c,h1,h2⟩:=h;have H:Hid (bB w v l.length a c/\_):=⟨h1,h2⟩
 obtain⟨rfl,l1,m1,n1,r1⟩:=h1;unfold maxLen at m1;clear h2 n1 r1;go_enter ZF118,Tryz.ntmps118
 go_wp2
 go_loop [8,5] (fun i j=>∃k:Nat,k<=l.length/\Hid (ib l x k)/\i=.int .i64 k) (fun i _=>l.length-(intOf i).toNat)
 case atStart=>exact⟨0,Nat.zero_le _,ib.zero l x,rfl⟩
 case round=>
  obtain⟨k,hk,hN,rfl⟩:=hrel;by_cases az:k<l.length
  .obtain⟨⟨blk,off,sp⟩,y,rfl,hy,y0⟩:=H.o.1.elem H.o.2 az;obtain rfl:sp=none:=y0.1;have g0:=y0.2;simp only at g0;have HY:=hid hy;have pR:(k:Int)<(l.length:Int):=by omega
   clear y0 hy;by_cases e:x=y
   .subst e;go_wp2
    go_ret;exact⟨k,rfl,⟨fun _=>List.mem_of_getElem? HY.o,fun _=>by omega⟩,rfl⟩
   .have e':Hid (y≠x):=fun h=>e h.symm;go_wp2
    go_round
    case rel=>exact⟨k+1,by omega,hN.o.succ HY.o e'.out,by go_num⟩
    case measure=>simp[intOf];omega
  .have HN:Hid (x∉l):=(by have e:k=l.length:=by omega
                          subst e;exact hN.o.all)
   go_wp2
   go_ret;exact⟨-1,rfl,⟨fun h=>by omega,fun h=>absurd h HN.o⟩,rfl⟩
theorem jE (w:World) (v:Value) (l:List Int) (x:Int) (h:ae w v l):Calls ZP 91 #[v,.int .i64 x] w (cL w fun r=>Tr r (x∈l)):=by
 go_enter ZF91,Tryz.ntmps91
 go_wp2_with
  (go_at_call 118
   refine(DN _ _ _ x h).mono ?_;rintro e w1 ⟨r,rfl,hr,rfl⟩;by_cases h0:0<=r)
 .have hx:Hid (x∈l):=hr.1 h0;go_ret;exact cL.eq (r:=true) (Tr.yes hx.o) (by simp[hx.o])
 .have hx:Hid (¬x∈l):=fun h=>by have:=hr.2 h;omega
  go_ret;exact cL.eq (r:=false) (Tr.no hx.o) (by simp[hx.o])
theorem sY (w:World) (v:Value) (l:List (Int×Int)) (p q:Int) (h:d8 w v l):
 Calls ZP 149 #[v,.agg #[.int .i64 p,.int .i64 q]] w (aT w fun r=>0<=r↔(p,q)∈l):=by
 obtain⟨a,c,h1,h2⟩:=h;have H:Hid (bB w v l.length a c/\_):=⟨h1,h2⟩
 obtain⟨rfl,l1,m1,n1,r1⟩:=h1;unfold maxLen at m1;clear h2 n1 r1;go_enter ZF149,Tryz.ntmps149
 go_wp2
 go_loopw [8,5] (fun i j w1=>∃k:Nat,k<=l.length/\Hid (gA l (p,q) k)/\i=.int .i64 k/\∃n,w1=(w.alloc (.cells #[.int .i64 p,.int .i64 q] 111)).drewN n) (fun i _ _=>l.length-(intOf i).toNat)
 case atStart=>exact⟨0,Nat.zero_le _,gA.zero l _,rfl,0,rfl⟩
 case round=>
  obtain⟨k,hk,hN,rfl,n0,rfl⟩:=hrel;by_cases az:k<l.length
  .obtain⟨⟨blk,off,sp⟩,⟨ya,yb⟩,rfl,hy,y0,y1⟩:=H.o.1.elem H.o.2 az;obtain rfl:sp=none:=y0.1;have g0:=(y0.later (Kp.alloc w (.cells #[.int .i64 p,.int .i64 q] 111))).2;have g1:=(y1.later (Kp.alloc w (.cells #[.int .i64 p,.int .i64 q] 111))).2;simp only[<-Nat.add_assoc]at g0 g1;have HY:=hid hy;have pR:(k:Int)<(l.length:Int):=by omega
   clear y0 y1 hy;by_cases e1:p=ya
   .subst e1;by_cases e2:q=yb
    .subst e2;go_wp2
     go_quiet (fail)
     go_wp2
     go_ret;exact aT.mk (r:=k) ⟨fun _=>List.mem_of_getElem? HY.o,fun _=>by omega⟩ (Below.drewN (Below.drewN (Below.alloc (Below.refl _ _) (Nat.le_refl _) _) _) _)
    .have bA:Hid ((p,yb)≠(p,q)):=(fun h=>e2 (by cases h;rfl):(p,yb)≠(p,q))
     go_wp2
     go_quiet (fail)
     go_wp2
     go_round
     case rel=>exact⟨k+1,by omega,hN.o.succ HY.o bA.o,by go_num,_,rfl⟩
     case measure=>simp[intOf];omega
   .have bA:Hid ((ya,yb)≠(p,q)):=(fun h=>e1 (by cases h;rfl):(ya,yb)≠(p,q))
    go_wp2
    go_quiet (fail)
    go_wp2
    go_round
    case rel=>exact⟨k+1,by omega,hN.o.succ HY.o bA.o,by go_num,_,rfl⟩
    case measure=>simp[intOf];omega
  .have HN:Hid ((p,q)∉l):=(by
    have e:k=l.length:=by omega
    subst e;intro hm;obtain⟨j,hj,od⟩:=List.getElem_of_mem hm;exact hN.o j _ hj (List.getElem?_eq_getElem hj) od)
   go_wp2
   go_ret;exact aT.mk (r:=-1) ⟨fun h=>by omega,fun h=>absurd h HN.o⟩ (Below.drewN (Below.alloc (Below.refl _ _) (Nat.le_refl _) _) _)
theorem db (w:World) (v:Value) (l:List (Int×Int)) (p q:Int) (h:d8 w v l):
 Calls ZP 135 #[v,.agg #[.int .i64 p,.int .i64 q]] w (dF w fun r=>Tr r ((p,q)∈l)):=by
 go_enter ZF135,Tryz.ntmps135
 have h':=h.later (Kp.alloc w (.cells #[.int .i64 p,.int .i64 q] 111))
 go_wp2_with
  (go_at_call 149
   refine(sY _ _ _ p q h').mono ?_;rintro e w1 ⟨⟨r,rfl,hr⟩,bu⟩;by_cases h0:0<=r)
 .have hx:Hid ((p,q)∈l):=hr.1 h0;go_ret;exact dF.eq (r:=true) (Tr.yes hx.o) (Below.step (Below.refl _ _) (Nat.le_refl _) bu) (by simp[hx.o])
 .have hx:Hid (¬(p,q)∈l):=fun h=>by have:=hr.2 h;omega
  go_ret;exact dF.eq (r:=false) (Tr.no hx.o) (Below.step (Below.refl _ _) (Nat.le_refl _) bu) (by simp[hx.o])
open Classical in
noncomputable def bG (b:an):Int:=if(1<=b.ap/\b.ap<=99)/\1<=b.places/\b.places<=4 then 0 else 1
theorem dc {b:an}:bG b=0↔(1<=b.ap/\b.ap<=99)/\1<=b.places/\b.places<=4:=by
 unfold bG;split
 .rename_i h;exact⟨fun _=>h,fun _=>rfl⟩
 .rename_i h;exact⟨fun h1=>absurd h1 (by decide),fun h2=>absurd h2 h⟩
theorem iO {b:an} (h:¬((1<=b.ap/\b.ap<=99)/\1<=b.places/\b.places<=4)):bG b=1:=by unfold bG;rw[if_neg h]
theorem AD (w:World) (v:Value) (b:an) (hb:aB w v b):Calls ZP 168 #[v] w (aT w fun r=>r=bG b):=by
 obtain⟨v2,v3,v4,rfl,⟨a2,c2,⟨rfl,_,_,_,_⟩,_⟩,⟨a3,c3,⟨rfl,_,_,_,_⟩,_⟩,⟨a4,c4,⟨rfl,_,_,_,_⟩,_⟩⟩:=hb;go_enter ZF168,Tryz.ntmps168
 go_wp2_with(first
  |(go_at_call 66;(with_reducible refine(ic _ b.ap _ _).mono ?_);rintro e w' ⟨r,rfl,qf,rfl⟩;cases r)
  |(go_at_call 66;(with_reducible refine(ic _ b.places _ _).mono ?_);rintro e w' ⟨r,rfl,nK,rfl⟩;cases r))
 .go_ret;exact aT.mk (r:=1) (iO fun h=>qf.f h.1).symm ((Below.refl _ _).alloc (Nat.le_refl _) _)
 .go_ret;exact aT.mk (r:=1) (iO fun h=>nK.f h.2).symm ((Below.refl _ _).alloc (Nat.le_refl _) _)
 .go_ret;exact aT.mk (r:=0) (dc.2 ⟨qf.t,nK.t⟩).symm ((Below.refl _ _).alloc (Nat.le_refl _) _)
theorem AE (w:World) (v:Value) (b:an) (hb:aB w v b) (hs:di b) (jo:1<=b.places/\b.places<=4):Calls ZP 169 #[v] w (aT w fun r=>r=aU b.places b.parts):=by
 obtain⟨v2,v3,v4,rfl,GE,h3,h4⟩:=hb;have Us:=hid GE;have HS:Hid (di b):=hs;obtain⟨a2,c2,h2,f2⟩:=GE;have H2:Hid (bB w v2 b.parts.length a2 c2/\_):=⟨h2,f2⟩
 obtain⟨rfl,l2,m2,n2,r2⟩:=h2;obtain⟨a3,c3,⟨rfl,_,_,_,_⟩,_⟩:=h3;obtain⟨a4,c4,⟨rfl,_,_,_,_⟩,_⟩:=h4;unfold maxLen at m2;clear r2 f2 n2 hs;go_enter ZF169,Tryz.ntmps169
 go_wp2_with(go_at_call 66;refine(ic _ _ _ _).mono ?_;rintro e w' ⟨r,rfl,hr,rfl⟩;cases r)
 .go_ret;exact aT.mk (r:=2) (by unfold aU;rw[if_neg (fun h=>hr.f (by omega))]) ((Below.refl _ _).alloc (Nat.le_refl _) _)
 have hm:=hr.t;have nu:Hid (aU b.places b.parts=scan (bE b.places b.parts) b.parts.length):=rF (by omega);clear hr;go_loopw [17,3,4] (fun i u v w1=>∃k:Nat,k<=b.parts.length/\i=.int .i64 k/\Hid (scan (bE b.places b.parts) k=0)/\Hid (Below (w.heap.size+1) (w.alloc (.cells #[.int .i64 b.ap,.int .i64 b.places,.slice a2 b.parts.length c2,.slice a3 b.apart.length c3,.slice a4 b.aa.length c4] 66)) w1)) (fun i _ _ _=>b.parts.length-(intOf i).toNat)
 case atStart=>exact⟨0,Nat.zero_le _,rfl,rfl,Below.refl _ _⟩
 case round=>
  obtain⟨k,hk,rfl,hN,hB⟩:=hrel;have g1:=boxed hB.o 1;have g2:=boxed hB.o 2;simp only[List.getElem?_toArray,List.getElem?_cons_succ,List.getElem?_cons_zero]at g1 g2;by_cases az:k<b.parts.length
  .obtain⟨⟨blk,off,sp⟩,x,rfl,hx,x0,x1,x2,x3,x4,vf,x5,x6⟩:=H2.o.1.elem H2.o.2 az;obtain rfl:sp=none:=x0.1;have x7:=x6.later (Kp.boxed hB.o);obtain⟨af,cf,hf,_⟩:=x6;obtain⟨rfl,lf,mf,_,_⟩:=hf;unfold maxLen at mf;have HX:Hid (b.parts[k]?=some x/\ae wr (.slice af x.fits.length cf) x.fits):=⟨hx,x7⟩
   have bP:x.name.size<=maxLen:=by have:=HS.o k x az hx;unfold maxLen;omega
   have nM:=hid az;have y0:=(x0.later (Kp.boxed hB.o)).2;have y1:=(x1.later (Kp.boxed hB.o)).2;have y2:=(x2.later (Kp.boxed hB.o)).2;have y3:=(x3.later (Kp.boxed hB.o)).2;have y4:=(x4.later (Kp.boxed hB.o)).2;have y5:=(x5.later (Kp.boxed hB.o)).2;simp only[<-Nat.add_assoc]at y0 y1 y2 y3 y4 y5;have lH:w.heap.size+1<=wr.heap.size:=by have:=hB.o.size;simp at this;omega
   have oz:blk<w.heap.size:=x0.lt;have pR:(k:Int)<(b.parts.length:Int):=by omega
   clear x0 x1 x2 x3 x4 x5 x7 hx
   go_wp2_with(first
    |(go_at_call 172
      refine(vF _ _ bP).mono ?_;rintro e w1 ⟨⟨r,rfl,Om⟩,bu⟩;have B1:Hid (Below (w.heap.size+1) _ w1):=hB.o.step lH bu;have p0:=eH bu 0;have p1:=eH bu 1;have p2:=eH bu 2;have p3:=eH bu 3;have p4:=eH bu 4;have p5:=eH bu 5;have q1:=boxed B1.o 1;have q2:=boxed B1.o 2;simp only[List.getElem?_toArray,List.getElem?_cons_succ,List.getElem?_cons_zero]at p0 p1 p2 p3 p4 p5 q1 q2;cases r)
    |(go_at_call 173
      refine(vH _ _ (b.parts.take k) _ x.name ((Us.o.later (Kp.boxed B1.o)).take hk) p0).mono ?_;rintro e w2 ⟨⟨r,rfl,LQ⟩,fk⟩;have B2:Hid (Below (w.heap.size+1) _ w2):=B1.o.trans (fk.mono (by have:=B1.o.size;simpa using this));have s1:=ah.cell ⟨w2,fk⟩ p1;have s2:=ah.cell ⟨w2,fk⟩ p2;have s3:=ah.cell ⟨w2,fk⟩ p3;have s4:=ah.cell ⟨w2,fk⟩ p4;have s5:=ah.cell ⟨w2,fk⟩ p5;have t1:=ah.cell ⟨w2,fk⟩ q1;simp only at s1 s2 s3 s4 s5 t1;have s5a:∀o,(w2.alloc o).cell? ⟨wr.heap.size,5,none⟩=_:=fun o=>ah.cell ⟨w2.alloc o,(Below.refl _ _).alloc (Nat.le_refl _) o⟩ s5;have t1a:∀o,(w2.alloc o).cell? ⟨w.heap.size,1,none⟩=_:=fun o=>ah.cell ⟨w2.alloc o,(Below.refl _ _).alloc (Nat.le_refl _) o⟩ t1;have HF:Hid (∀o,ae (w2.alloc o) (.slice af x.fits.length cf) x.fits):=fun o=>(HX.o.2.later (Kp.trans (Kp.alloc wr _) (Kp.of bu) (by simp))).later (Kp.trans (Kp.of fk) (Kp.alloc w2 o) fk.size)
      have GF:Hid (r=true\/fN b.parts x.name k):=(by
       cases r with
       |true=>exact .inl rfl
       |false=>exact .inr fun i y hi hy e=>LQ.f ⟨i,y,by rw[List.length_take];omega,by rw[List.getElem?_take_of_lt hi];exact hy,e⟩)
      have HNY:Hid (r=false\/∃i y,i<k/\b.parts[i]?=some y/\y.name=x.name):=(by
       cases r with
       |false=>exact .inl rfl
       |true=>
        obtain⟨i,y,hi,hy,e⟩:=LQ.t;have Oo:i<k:=by rw[List.length_take]at hi;omega
        exact .inr ⟨i,y,Oo,by rw[List.getElem?_take_of_lt Oo]at hy;exact hy,e⟩)
      clear p0 p1 p2 p3 p4 p5 q1 q2 LQ;cases r)
    |(go_at_call 66;(with_reducible refine(ic _ x.cost _ _).mono ?_);rintro e w' ⟨r,rfl,XT,rfl⟩;cases r)
    |(go_at_call 66;(with_reducible refine(ic _ x.fF _ _).mono ?_);rintro e w' ⟨r,rfl,FQ,rfl⟩;cases r)
    |(go_at_call 94;refine(rD _ _ _ _ _ (by omega) _).mono ?_;rintro e w' ⟨r,rfl,XU,rfl⟩;cases r))
   .go_ret;exact aT.mk (r:=4) (nu.o.trans (aG hN.o (Gy HX.o.1 Om.f) (by decide) nM.o)).symm (Below.boxed B1.o)
   .go_ret;exact aT.mk (r:=1) (nu.o.trans (aG hN.o (mq HX.o.1 Om.t (GF.o.resolve_left (by simp)) fun h=>XT.f h.1) (by decide) nM.o)).symm (Below.boxed B2.o)
   .go_ret;exact aT.mk (r:=1) (nu.o.trans (aG hN.o (mq HX.o.1 Om.t (GF.o.resolve_left (by simp)) fun h=>FQ.f h.2.1) (by decide) nM.o)).symm (Below.boxed B2.o)
   .go_ret;exact aT.mk (r:=1) (nu.o.trans (aG hN.o (mq HX.o.1 Om.t (GF.o.resolve_left (by simp)) fun h=>XU.f ⟨h.2.2.1.1,h.2.2.1.2.1,h.2.2.1.2.2,h.2.2.2⟩) (by decide) nM.o)).symm (Below.boxed (Below.alloc B2.o (by have:=B2.o.size;simpa using this) _))
   .have XV:Hid (bE b.places b.parts k=scan (fx b.places x.fits) x.fits.length):=(by
     have h:=XU.t;exact vA HX.o.1 Om.t (GF.o.resolve_left (by simp)) ⟨XT.t,FQ.t,⟨h.1,h.2.1,h.2.2.1⟩,h.2.2.2⟩)
    have GB:wrap64 (b.places-1)=b.places-1:=by unfold wrap64;omega
    have iP:Hid (Below w.heap.size w _):=Below.boxed (Below.alloc B2.o (by have:=B2.o.size;simpa using this) (.cells #[.int .i64 x.lo,.int .i64 x.hi] 37));clear Om XT FQ XU bu fk;go_loop [51,5,6] (fun i u v=>∃m:Nat,m<=x.fits.length/\i=.int .i64 m/\Hid (scan (fx b.places x.fits) m=0)) (fun i _ _=>x.fits.length-(intOf i).toNat)
    case atStart=>exact⟨0,Nat.zero_le _,rfl,rfl⟩
    case round=>
     obtain⟨m,Sk,rfl,hM⟩:=hrel;by_cases iv:m<x.fits.length
     .obtain⟨a',jW,y8,So⟩:=HF.o (.cells #[.int .i64 x.lo,.int .i64 x.hi] 37);have he:=y8.eq;simp only[Value.slice.injEq]at he;obtain⟨rfl,-,rfl⟩:=he;obtain⟨⟨fb,fo,fs⟩,y,rfl,hy,y0⟩:=y8.elem So iv;obtain rfl:fs=none:=y0.1;have z0:=y0.2;simp only at z0;have HY:=hid hy;have HMK:=hid iv;have Sn:(m:Int)<(x.fits.length:Int):=by omega
      by_cases rt:0<=y/\y<=b.places-1
      .have e3:(decide (0<=y)&&decide (y<=b.places-1))=true:=by simpa using rt
       have GH:=hid rt;clear rt;by_cases CH:0<m
       .obtain⟨b',z,vB,LW,z1⟩:=y8.elem So (show m-1<x.fits.length by omega);cases vB;have z1:=z1.2;simp only at z1;have HZ:Hid (x.fits[m-1]?=some z):=LW;have LZ:Hid (0<m):=CH;have lD:wrap64 ((m:Int)-1)=((m-1:Nat):Int):=by unfold wrap64;omega
        have pw:(0:Int)<(m:Int):=by omega
        have me:((m-1:Nat):Int)<(x.fits.length:Int):=by omega
        clear LW y8 So y0 hy;by_cases Up:y<=z
        .have XW:Hid (y<=z):=Up;go_wp2_with(go_at_call 66;refine(bU _ _ _ _).mono ?_;rw[e3];rintro e w' ⟨rfl,rfl⟩)
         go_ret;exact aT.mk (r:=7) (nu.o.trans (aG hN.o (XV.o.trans (aG hM.o (LV HY.o GH.o LZ.o HZ.o XW.o) (by decide) HMK.o)) (by decide) nM.o)).symm iP.o
        .have XW:Hid (z<y):=Int.lt_of_not_ge Up;go_wp2_with(go_at_call 66;refine(bU _ _ _ _).mono ?_;rw[e3];rintro e w' ⟨rfl,rfl⟩)
         go_round
         case rel=>exact⟨m+1,by omega,by go_num,fw hM.o (x9 HY.o GH.o fun z' _ oz=>by rw[HZ.o]at oz;cases oz;exact XW.o)⟩
         case measure=>simp[intOf];omega
       .have pw:¬(0:Int)<(m:Int):=by omega
        have LZ:Hid (¬0<m):=CH;clear y8 So y0 hy;go_wp2_with(go_at_call 66;refine(bU _ _ _ _).mono ?_;rw[e3];rintro e w' ⟨rfl,rfl⟩)
        go_round
        case rel=>exact⟨m+1,by omega,by go_num,fw hM.o (x9 HY.o GH.o fun z' h _=>absurd h LZ.o)⟩
        case measure=>simp[intOf];omega
      .have e3:(decide (0<=y)&&decide (y<=b.places-1))=false:=by
        cases hd:(decide (0<=y)&&decide (y<=b.places-1))with
        |false=>rfl
        |true=>exact absurd (by simpa using hd) rt
       have GH:=hid rt;clear rt y8 So y0 hy;go_wp2_with(go_at_call 66;refine(bU _ _ _ _).mono ?_;rw[e3];rintro e w' ⟨rfl,rfl⟩)
       go_ret;exact aT.mk (r:=6) (nu.o.trans (aG hN.o (XV.o.trans (aG hM.o (LU HY.o GH.o) (by decide) HMK.o)) (by decide) nM.o)).symm iP.o
     .have em:m=x.fits.length:=by omega
      subst em;have HK:Hid (bE b.places b.parts k=0):=XV.o.trans hM.o;go_wp2
      go_round
      case rel=>exact⟨k+1,by omega,by go_num,fw hN.o HK.o,(Below.alloc B2.o (by have:=B2.o.size;simpa using this) _:Below _ _ _)⟩
      case measure=>simp[intOf];omega
   .obtain⟨i,y,hi,hy,Id⟩:=HNY.o.resolve_left (by simp);go_ret;exact aT.mk (r:=5) (nu.o.trans (aG hN.o (Gz HX.o.1 Om.t hi hy Id) (by decide) nM.o)).symm (Below.boxed B2.o)
  .have ek:k=b.parts.length:=by omega
   subst ek;go_wp2
   go_ret;exact aT.mk (r:=0) (nu.o.trans hN.o).symm (Below.boxed hB.o)
theorem AF (w:World) (v:Value) (b:an) (hb:aB w v b) (L0:1<=b.parts.length/\b.parts.length<=5):Calls ZP 170 #[v] w (aT w fun r=>r=bi b.parts.length b.apart):=by
 obtain⟨v2,v3,v4,rfl,h2,GE,h4⟩:=hb;have Us:=hid GE;obtain⟨a3,c3,h3,f3⟩:=GE;have H3:Hid (bB w v3 b.apart.length a3 c3/\_):=⟨h3,f3⟩
 obtain⟨rfl,l3,m3,n3,r3⟩:=h3;obtain⟨a2,c2,⟨rfl,_,m2,_,_⟩,_⟩:=h2;obtain⟨a4,c4,⟨rfl,_,_,_,_⟩,_⟩:=h4;unfold maxLen at m3;clear r3 f3 n3 m2;have fV:wrap64 ((b.parts.length:Int)-1)=b.parts.length-1:=by unfold wrap64;omega
 by_cases XX:(5:Int)<(b.apart.length:Int)
 .go_enter ZF170,Tryz.ntmps170
  go_wp2
  go_ret;exact aT.mk (r:=2) (by unfold bi;rw[if_neg (by omega)]) ((Below.refl _ _).alloc (Nat.le_refl _) _)
 have nu:Hid (bi b.parts.length b.apart=scan (cy b.parts.length b.apart) b.apart.length):=rI (by omega);go_enter ZF170,Tryz.ntmps170
 go_wp2
 go_loopw [14,3,4] (fun i u v w1=>∃k:Nat,k<=b.apart.length/\i=.int .i64 k/\Hid (scan (cy b.parts.length b.apart) k=0)/\Hid (Below (w.heap.size+1) (w.alloc (.cells #[.int .i64 b.ap,.int .i64 b.places,.slice a2 b.parts.length c2,.slice a3 b.apart.length c3,.slice a4 b.aa.length c4] 66)) w1)) (fun i _ _ _=>b.apart.length-(intOf i).toNat)
 case atStart=>exact⟨0,Nat.zero_le _,rfl,rfl,Below.refl _ _⟩
 case round=>
  obtain⟨k,hk,rfl,hN,hB⟩:=hrel;have g2:=boxed hB.o 2;have g3:=boxed hB.o 3;simp only[List.getElem?_toArray,List.getElem?_cons_succ,List.getElem?_cons_zero]at g2 g3;by_cases az:k<b.apart.length
  .obtain⟨⟨blk,off,sp⟩,⟨xa,xb⟩,rfl,hx,x0,x1⟩:=H3.o.1.elem H3.o.2 az;obtain rfl:sp=none:=x0.1;have HX:=hid hx;have nM:=hid az;have y0:=(x0.later (Kp.boxed hB.o)).2;have y1:=(x1.later (Kp.boxed hB.o)).2;simp only[<-Nat.add_assoc]at y0 y1;have lH:w.heap.size+1<=wr.heap.size:=by have:=hB.o.size;simp at this;omega
   have oz:blk<w.heap.size:=x0.lt;have pR:(k:Int)<(b.apart.length:Int):=by omega
   have pw:(k:Int)<=(c3:Int):=by omega
   clear x0 x1 hx;have HA:Hid (Below w.heap.size w (wr.alloc (.cells #[.int .i64 xa,.int .i64 xb] 111))):=Below.one (Below.boxed hB.o) (by omega) _ 0;have Qq:∀o,(wr.alloc o).cell? ⟨w.heap.size,2,none⟩=some (.slice a2 b.parts.length c2):=fun o=>(ee (by show w.heap.size<_;omega) o).trans g2;by_cases h1:0<=xa/\xa<=(b.parts.length:Int)-1
   .have e1:(decide (0<=xa)&&decide (xa<=(b.parts.length:Int)-1))=true:=by simpa using h1
    have Sp:=hid h1;clear h1;by_cases h2:0<=xb/\xb<=(b.parts.length:Int)-1
    .have e2:(decide (0<=xb)&&decide (xb<=(b.parts.length:Int)-1))=true:=by simpa using h2
     have Sq:=hid h2;clear h2;by_cases h3:xb<xa
     .have HN3:Hid (¬xa<=xb):=Int.not_le.2 h3;go_wp2_with(go_at_call 66;refine(bU _ _ _ _).mono ?_;(first|rw[e1]|rw[e2]);rintro e w' ⟨rfl,rfl⟩)
      go_ret;exact aT.mk (r:=7) (nu.o.trans (aG hN.o (GC HX.o ⟨Sp.o,Sq.o⟩ (fun(h:xa<=xb)=>by have:=HN3.o;omega)) (by decide) nM.o)).symm HA.o
     .have L1:Hid (rH b.parts.length (xa,xb)):=⟨Sp.o,Sq.o,Int.not_lt.1 h3⟩
      have G3:∀X:ah (wr.alloc (.cells #[.int .i64 xa,.int .i64 xb] 111)),X.1.cell? ⟨w.heap.size,3,none⟩=some (.slice (some ⟨blk,off,none⟩) b.apart.length c3):=fun X=>
       X.cell ((ee (by show w.heap.size<_;omega) _).trans g3)
      have T0:∀X:ah (wr.alloc (.cells #[.int .i64 xa,.int .i64 xb] 111)),X.1.cell? ⟨wr.heap.size,0,none⟩=some (.int .i64 xa):=fun X=>eH X.2 0;have T1:∀X:ah (wr.alloc (.cells #[.int .i64 xa,.int .i64 xb] 111)),X.1.cell? ⟨wr.heap.size,1,none⟩=some (.int .i64 xb):=fun X=>eH X.2 1;have hz:=hid lH;by_cases dP:(xa,xb)∈b.apart.take k
      .have XY:Hid (∃i,i<k/\b.apart[i]?=some (xa,xb)):=by
        obtain⟨j,hj,od⟩:=List.getElem_of_mem dP;rw[List.getElem_take]at od;have Vq:j<b.apart.length:=by simp at hj;omega
        exact⟨j,by simp at hj;omega,by rw[List.getElem?_eq_getElem Vq,od]⟩
       have Oq:∀X:ah (wr.alloc (.cells #[.int .i64 xa,.int .i64 xb] 111)),Calls ZP 135 #[.slice (some ⟨blk,off,none⟩) k c3,.agg #[.int .i64 xa,.int .i64 xb]] X.1 (fun e gI=>e=.returned (.bool true)/\∃Y:ah (wr.alloc (.cells #[.int .i64 xa,.int .i64 xb] 111)),gI=Y.1):=fun X=>
        (db _ _ _ _ _ (((Us.o.later (Kp.boxed hB.o)).later (Kp.trans (Kp.alloc wr _) X.kp (by simp))).take hk)).mono fun e w' ⟨⟨r,h1,h2⟩,h3⟩=>⟨by cases r with
          |true=>exact h1
          |false=>exact absurd dP h2.f,X.on h3⟩
       clear dP;go_wp2_with(go_at_call 66;refine(bU _ _ _ _).mono ?_;(first|rw[e1]|rw[e2]);rintro e w' ⟨rfl,rfl⟩)
       refine aj (by kernel_rfl) (by kernel_rfl) ?_;repeat(go_big_quiet_step (first|(go_at_call 135;exact Oq _)))
       refine wpQuiet_nil ?_;rintro _ ⟨X,rfl⟩;go_wp2
       go_ret;obtain⟨i,hi,hy⟩:=XY.o;exact aT.mk (r:=5) (nu.o.trans (aG hN.o (GD HX.o L1.o hi hy) (by decide) nM.o)).symm (Below.boxed (hB.o.step hz.o X.2))
      .have HNP:Hid (gA b.apart (xa,xb) k):=fun i y hi hy e=>by
        subst e;have hil:=(List.getElem?_eq_some_iff.1 hy)
        exact dP (List.mem_iff_getElem?.2 ⟨i,by rw[List.getElem?_take_of_lt hi];exact hy⟩)
       have Oq:∀X:ah (wr.alloc (.cells #[.int .i64 xa,.int .i64 xb] 111)),Calls ZP 135 #[.slice (some ⟨blk,off,none⟩) k c3,.agg #[.int .i64 xa,.int .i64 xb]] X.1 (fun e gI=>e=.returned (.bool false)/\∃Y:ah (wr.alloc (.cells #[.int .i64 xa,.int .i64 xb] 111)),gI=Y.1):=fun X=>
        (db _ _ _ _ _ (((Us.o.later (Kp.boxed hB.o)).later (Kp.trans (Kp.alloc wr _) X.kp (by simp))).take hk)).mono fun e w' ⟨⟨r,h1,h2⟩,h3⟩=>⟨by cases r with
          |false=>exact h1
          |true=>exact absurd h2.t dP,X.on h3⟩
       clear dP;go_wp2_with(go_at_call 66;refine(bU _ _ _ _).mono ?_;(first|rw[e1]|rw[e2]);rintro e w' ⟨rfl,rfl⟩)
       refine aj (by kernel_rfl) (by kernel_rfl) ?_;repeat(go_big_quiet_step (first|(go_at_call 135;exact Oq _)))
       refine wpQuiet_nil ?_;rintro _ ⟨X,rfl⟩;go_wp2
       go_round
       case rel=>exact⟨k+1,by omega,by go_num,fw hN.o (AB HX.o L1.o HNP.o),hB.o.step hz.o X.2⟩
       case measure=>simp[intOf];omega
    .have e2:(decide (0<=xb)&&decide (xb<=(b.parts.length:Int)-1))=false:=by
      cases hd:(decide (0<=xb)&&decide (xb<=(b.parts.length:Int)-1))with
      |false=>rfl
      |true=>exact absurd (by simpa using hd) h2
     have Sq:=hid h2;clear h2;by_cases BA:xa=xb
     .exact absurd Sp.o (by rw[BA];exact Sq.o)
     .clear BA;go_wp2_with(go_at_call 66;refine(bU _ _ _ _).mono ?_;(first|rw[e1]|rw[e2]);rintro e w' ⟨rfl,rfl⟩)
      go_ret;exact aT.mk (r:=6) (nu.o.trans (aG hN.o (vD HX.o fun h=>Sq.o h.2) (by decide) nM.o)).symm HA.o
   .have e1:(decide (0<=xa)&&decide (xa<=(b.parts.length:Int)-1))=false:=by
     cases hd:(decide (0<=xa)&&decide (xa<=(b.parts.length:Int)-1))with
     |false=>rfl
     |true=>exact absurd (by simpa using hd) h1
    have Sp:=hid h1;clear h1;go_wp2_with(go_at_call 66;refine(bU _ _ _ _).mono ?_;rw[e1];rintro e w' ⟨rfl,rfl⟩)
    go_ret;exact aT.mk (r:=6) (nu.o.trans (aG hN.o (vD HX.o fun h=>Sp.o h.1) (by decide) nM.o)).symm HA.o
  .have ek:k=b.apart.length:=by omega
   subst ek;go_wp2
   go_ret;exact aT.mk (r:=0) (nu.o.trans hN.o).symm (Below.boxed hB.o)
theorem ue {b:an} (h:fy b) (p q:Int):(min p q,max p q)∈b.apart↔Apart b.apart p q:=by
 constructor
 .intro hm;refine⟨_,hm,?_⟩;by_cases e:p<=q
  .left;simp only;omega
  .right;simp only;omega
 .rintro⟨⟨x,y⟩,hm,hx⟩;obtain⟨j,hj,od⟩:=List.getElem_of_mem hm;have hle:=(h.all j _ hj (by rw[List.getElem?_eq_getElem hj,od])).1.le
  have:(min p q,max p q)=(x,y):=by
   rcases hx with⟨rfl,rfl⟩|⟨rfl,rfl⟩<;>simp only at*<;>ext<;>simp only<;>omega
  rw[this];exact hm
theorem mt (w:World) (v:Value) (b:an) (p q:Int) (hb:aB w v b) (h:fy b):
 Calls ZP 106 #[v,.int .i64 p,.int .i64 q] w (dF w fun r=>Tr r (Apart b.apart p q)):=by
 obtain⟨v2,v3,v4,rfl,h2,Pz,h4⟩:=hb;obtain⟨a2,c2,⟨rfl,_,_,_,_⟩,_⟩:=h2;obtain⟨a4,c4,⟨rfl,_,_,_,_⟩,_⟩:=h4;have hP0:=Pz;obtain⟨a3,c3,⟨rfl,_,_,_,_⟩,_⟩:=hP0;have Pz:=Pz.later (Kp.alloc w (.cells #[.int .i64 b.ap,.int .i64 b.places,.slice a2 b.parts.length c2,.slice a3 b.apart.length c3,.slice a4 b.aa.length c4] 66));by_cases hqp:q<p
 .have hC:=db _ _ _ q p Pz
  have hI:(q,p)∈b.apart↔Apart b.apart p q:=by
   have:=ue h p q;rwa [show min p q=q by omega,show max p q=p by omega]at this
  have zej:¬p<q:=by omega
  go_enter ZF106,Tryz.ntmps106
  go_wp2_with(go_at_call 135;refine hC.mono ?_;rintro e w1 ⟨⟨r,rfl,hr⟩,bu⟩;cases r)
  .go_ret;exact dF.mk (Tr.no fun ha=>hr.f (hI.2 ha)) (Below.step (Below.refl _ _) (Nat.le_refl _) bu)
  .go_ret;exact dF.mk (Tr.yes (hI.1 hr.t)) (Below.step (Below.refl _ _) (Nat.le_refl _) bu)
 .have hI:(p,q)∈b.apart↔Apart b.apart p q:=by
   have:=ue h p q;rwa [show min p q=p by omega,show max p q=q by omega]at this
  by_cases hpq:p<q
  .have hC:=db _ _ _ p q Pz;go_enter ZF106,Tryz.ntmps106
   go_wp2_with(go_at_call 135;refine hC.mono ?_;rintro e w1 ⟨⟨r,rfl,hr⟩,bu⟩;cases r)
   .go_ret;exact dF.mk (Tr.no fun ha=>hr.f (hI.2 ha)) (Below.step (Below.refl _ _) (Nat.le_refl _) bu)
   .go_ret;exact dF.mk (Tr.yes (hI.1 hr.t)) (Below.step (Below.refl _ _) (Nat.le_refl _) bu)
  .obtain rfl:p=q:=by omega
   have hC:=db _ _ _ p p Pz;go_enter ZF106,Tryz.ntmps106
   go_wp2_with(go_at_call 135;refine hC.mono ?_;rintro e w1 ⟨⟨r,rfl,hr⟩,bu⟩;cases r)
   .go_ret;exact dF.mk (Tr.no fun ha=>hr.f (hI.2 ha)) (Below.step (Below.refl _ _) (Nat.le_refl _) bu)
   .go_ret;exact dF.mk (Tr.yes (hI.1 hr.t)) (Below.step (Below.refl _ _) (Nat.le_refl _) bu)
theorem mr.DO {w w1:World} {v0 v1 v2 v3 v4:Value} {t:Nat} (h:Below (w.heap.size+1) (w.alloc (.cells #[v0,v1,v2,v3,v4] t)) w1):mr w1 w.heap.size v0 v1 v2 v3 v4:=
 ⟨boxed h 0,boxed h 1,boxed h 2,boxed h 3,boxed h 4⟩
theorem GI (w:World) (g n c:Nat) (a:Option Addr) (k:Int) (hn:1<=n/\n<=5) (hg:w.cell? ⟨g,2,none⟩=some (.slice a n c)):
 Calls ZP 105 #[.int .i64 k,.pointer (some ⟨g,0,none⟩)] w (cL w fun r=>Tr r (¬(0<=k/\k<=(n:Int)-1))):=by
 have fV:wrap64 ((n:Int)-1)=n-1:=by unfold wrap64;omega
 go_enter ZF105,Tryz.ntmps105
 go_wp2_with(go_at_call 66;refine(ic _ _ _ _).mono ?_;rintro e w' ⟨r,rfl,hr,rfl⟩;cases r)
 .go_ret;exact cL.mk (Tr.yes hr.f)
 .go_ret;exact cL.mk (Tr.no fun h=>h hr.t)
theorem ye (w:World) (v:Value) (l:List Int) (g n c:Nat) (a:Option Addr) (h:ae w v l) (hn:1<=n/\n<=5) (hg:w.cell? ⟨g,2,none⟩=some (.slice a n c)):
 Calls ZP 134 #[v,.func (.func 105) #[] #[.pointer (some ⟨g,0,none⟩)]] w (fun e w'=>∃r,e=.returned (.int .i64 r)/\(0<=r↔¬kH l n l.length)/\w'=w):=by
 obtain⟨a1,c1,h1,h2⟩:=h;have H:Hid (bB w v l.length a1 c1/\_):=⟨h1,h2⟩
 have HG:=hid hg;obtain⟨rfl,l1,m1,n1,r1⟩:=h1;unfold maxLen at m1;clear h2 n1 r1 hg;go_enter ZF134,Tryz.ntmps134
 go_wp2
 go_loop [8,5] (fun i j=>∃k:Nat,k<=l.length/\Hid (kH l n k)/\i=.int .i64 k) (fun i _=>l.length-(intOf i).toNat)
 case atStart=>exact⟨0,Nat.zero_le _,kH.zero _ _,rfl⟩
 case round=>
  obtain⟨k,lD,hN,rfl⟩:=hrel;by_cases az:k<l.length
  .obtain⟨⟨blk,off,sp⟩,y,rfl,hy,y0⟩:=H.o.1.elem H.o.2 az;obtain rfl:sp=none:=y0.1;have g0:=y0.2;simp only at g0;have HY:=hid hy;have nM:=hid az;have pR:(k:Int)<(l.length:Int):=by omega
   clear y0 hy
   go_wp2_with
    (go_at_call 105
     refine(GI _ _ _ _ _ _ hn HG.o).mono ?_;rintro e w' ⟨r,rfl,hr,rfl⟩;cases r)
   .have HI:Hid (0<=y/\y<=(n:Int)-1):=Classical.not_not.1 hr.f;clear hr;go_round
    case rel=>exact⟨k+1,by omega,hN.o.succ HY.o HI.o,by go_num⟩
    case measure=>simp[intOf];omega
   .have HI:Hid (¬(0<=y/\y<=(n:Int)-1)):=hr.t;clear hr;go_ret;exact⟨_,rfl,⟨fun _ h=>HI.o (h k y nM.o HY.o),fun _=>Int.natCast_nonneg _⟩,rfl⟩
  .have ek:k=l.length:=by omega
   subst ek;go_wp2
   go_ret;exact⟨-1,rfl,⟨fun h=>absurd h (by decide),fun h=>absurd hN.o h⟩,rfl⟩
theorem yf (w:World) (v:Value) (l:List Int) (g n c:Nat) (a:Option Addr) (h:ae w v l) (hn:1<=n/\n<=5) (hg:w.cell? ⟨g,2,none⟩=some (.slice a n c)):
 Calls ZP 104 #[v,.func (.func 105) #[] #[.pointer (some ⟨g,0,none⟩)]] w (cL w fun r=>Tr r (¬kH l n l.length)):=by
 go_enter ZF104,Tryz.ntmps104
 go_wp2_with
  (go_at_call 134
   refine(ye _ _ _ _ _ _ _ h hn hg).mono ?_;rintro e w1 ⟨r,rfl,hr,rfl⟩;have HR:=hid hr;clear hr)
 go_ret;refine cL.mk ?_;unfold Tr;simp only[decide_eq_true_eq];exact HR.o
theorem oH (w:World) (v vl:Value) (b:an) (l:List Int) (hb:aB w v b) (hl:ae w vl l) (hp:1<=b.parts.length/\b.parts.length<=5) (Kk:fy b):
 Calls ZP 53 #[v,vl] w (aT w fun s=>s=bp b l):=by
 have HB:=hid hb;have HI:=hid hl;have Ut:Hid (fy b):=Kk;obtain⟨v2,v3,v4,rfl,⟨a2,c2,h2,f2⟩,⟨a3,c3,⟨rfl,_,_,_,_⟩,_⟩,⟨a4,c4,⟨rfl,_,_,_,_⟩,_⟩⟩:=hb;obtain⟨al,cl,Ao,fl⟩:=hl;have H2:Hid (bB w v2 b.parts.length a2 c2/\_):=⟨h2,f2⟩
 have HL:Hid (bB w vl l.length al cl/\_):=⟨Ao,fl⟩
 obtain⟨rfl,l2,m2,n2,r2⟩:=h2;obtain⟨rfl,ll,ml,nl,rl⟩:=Ao;unfold maxLen at m2 ml;clear r2 f2 n2 rl fl nl Kk;by_cases hlen:(l.length:Int)=b.places
 case neg=>
  have oF:=hid hlen;go_enter ZF53,Tryz.ntmps53
  go_wp2
  go_ret;exact aT.mk (r:=2) (jD oF.o) ((Below.refl _ _).alloc (Nat.le_refl _) _)
 case pos=>
 have bA:((l.length:Int)!=b.places)=false:=by simp[hlen]
 have oF:=hid hlen
 have HO:=yf (w.alloc (.cells #[.int .i64 b.ap,.int .i64 b.places,.slice a2 b.parts.length c2,.slice a3 b.apart.length c3,.slice a4 b.aa.length c4] 66)) _ l w.heap.size b.parts.length c2 a2
  (HI.o.later (Kp.alloc w _)) hp (boxed (Below.refl _ _) 2)
 clear hlen;go_enter ZF53,Tryz.ntmps53
 go_wp2_with
  (go_at_call 104
   refine HO.mono ?_;rintro e w' ⟨r,rfl,hr,rfl⟩;cases r)
 rotate_left
 .have HR:=hr.t;go_ret;exact aT.mk (r:=6) (kI oF.o HR) ((Below.refl _ _).alloc (Nat.le_refl _) _)
 have Sr:Hid (kH l b.parts.length l.length):=Classical.not_not.1 hr.f;clear HO hr;go_loopw [20,5,6] (fun i u v w1=>∃k:Nat,k<=l.length/\i=.int .i64 k/\Hid (jU b l k)/\Hid (Below (w.heap.size+1) (w.alloc (.cells #[.int .i64 b.ap,.int .i64 b.places,.slice a2 b.parts.length c2,.slice a3 b.apart.length c3,.slice a4 b.aa.length c4] 66)) w1)) (fun i _ _ _=>l.length-(intOf i).toNat)
 case atStart=>exact⟨0,Nat.zero_le _,rfl,jU.zero _ _,Below.refl _ _⟩
 case round=>
  obtain⟨k,hk,rfl,hF,hB⟩:=hrel;have gg:=mr.DO hB.o;by_cases az:k<l.length
  .obtain⟨⟨blk,off,sp⟩,x,rfl,hx,x0⟩:=HL.o.1.elem HL.o.2 az;obtain rfl:sp=none:=x0.1;obtain⟨xn,rfl⟩:=Int.eq_ofNat_of_zero_le (Sr.o k x az hx).1;have hxr:=(Sr.o k xn az hx).2;have Bl:xn<b.parts.length:=by omega
   obtain⟨⟨pb,po,ps⟩,P,rfl,hP,_,_,_,_,_,vf,p5,Ir⟩:=H2.o.1.elem H2.o.2 Bl;obtain rfl:ps=none:=p5.1;have hf:=Ir;obtain⟨af,cf,⟨rfl,_,_,_,_⟩,_⟩:=Ir;have HX:=hid hx;have nM:=hid az;have XZ:Hid (b.parts[(xn:Int).toNat]?=some P):=by rw[Int.toNat_natCast];exact hP
   have G0:=fun X:ah wr=>X.cell gg.c0;have G1:=fun X:ah wr=>X.cell gg.c1;have G2:=fun X:ah wr=>X.cell gg.c2;have G3:=fun X:ah wr=>X.cell gg.c3;have G4:=fun X:ah wr=>X.cell gg.c4;have y0:=(x0.later (Kp.boxed hB.o)).2;have Y5:=fun X:ah wr=>X.cell (p5.later (Kp.boxed hB.o)).2;simp only[<-Nat.add_assoc]at y0 Y5;have pR:(k:Int)<(l.length:Int):=by omega
   have XP:(xn:Int)<(b.parts.length:Int):=by omega
   have hz:Hid (w.heap.size+1<=wr.heap.size):=by have:=hB.o.size;simp at this;exact(by omega:w.heap.size+1<=wr.heap.size)
   clear hx hP p5 gg;by_cases kK:(k:Int)∈P.fits
   .have pV:∀X:ah wr,Calls ZP 91 #[.slice af P.fits.length cf,.int .i64 k] X.1 (fun e gI=>e=.returned (.bool true)/\∃Y:ah wr,gI=Y.1):=fun X=>
     (jE _ _ _ k ((hf.later (Kp.boxed hB.o)).later X.kp)).mono fun e w' ⟨r,h1,h2,h3⟩=>⟨by rw[h1,h2.2 kK],X.same h3⟩
    have L3:=hid kK;clear kK;by_cases oU:0<k
    .obtain⟨b',z,vB,LW,z0⟩:=HL.o.1.elem HL.o.2 (show k-1<l.length by omega);cases vB;have Z0:=fun X:ah wr=>X.cell (z0.later (Kp.boxed hB.o)).2;simp only at Z0;have HZ:Hid (l[k-1]?=some z):=LW;have X0:Hid (0<k):=oU;have lD:wrap64 ((k:Int)-1)=((k-1:Nat):Int):=by unfold wrap64;omega
     have pw:(0:Int)<(k:Int):=by omega
     have me:((k-1:Nat):Int)<(l.length:Int):=by omega
     clear z0 LW x0;by_cases lI:Apart b.apart z xn
     .have X3:=hid lI
      have ji:∀X:ah wr,Calls ZP 106 #[.agg #[.int .i64 b.ap,.int .i64 b.places,.slice (some ⟨pb,po,none⟩) b.parts.length c2,.slice a3 b.apart.length c3,.slice a4 b.aa.length c4],.int .i64 z,.int .i64 xn] X.1 (fun e gI=>e=.returned (.bool true)/\∃Y:ah wr,gI=Y.1):=fun X=>
       (mt _ _ _ _ _ ((HB.o.later (Kp.boxed hB.o)).later X.kp) Ut.o).mono fun e w' ⟨⟨r,h1,h2⟩,h3⟩=>⟨by cases r with
         |true=>exact h1
         |false=>exact absurd lI h2.f,X.on h3⟩
      clear lI;go_wp2
      refine aj (by kernel_rfl) (by kernel_rfl) ?_;repeat(go_big_quiet_step (first|(go_at_call 91;exact pV _)|(go_at_call 106;exact ji _)))
      refine wpQuiet_nil ?_;rintro _ ⟨X,rfl⟩;go_wp2
      go_ret;exact aT.mk (r:=3) (fA oF.o Sr.o fun h=>(h k _ nM.o HX.o).PU X0.o z HZ.o X3.o) (Below.boxed (hB.o.trans (X.2.mono hz.o)))
     .have X3:=hid lI
      have ji:∀X:ah wr,Calls ZP 106 #[.agg #[.int .i64 b.ap,.int .i64 b.places,.slice (some ⟨pb,po,none⟩) b.parts.length c2,.slice a3 b.apart.length c3,.slice a4 b.aa.length c4],.int .i64 z,.int .i64 xn] X.1 (fun e gI=>e=.returned (.bool false)/\∃Y:ah wr,gI=Y.1):=fun X=>
       (mt _ _ _ _ _ ((HB.o.later (Kp.boxed hB.o)).later X.kp) Ut.o).mono fun e w' ⟨⟨r,h1,h2⟩,h3⟩=>⟨by cases r with
         |false=>exact h1
         |true=>exact absurd h2.t lI,X.on h3⟩
      clear lI;go_wp2
      refine aj (by kernel_rfl) (by kernel_rfl) ?_;repeat(go_big_quiet_step (first|(go_at_call 91;exact pV _)|(go_at_call 106;exact ji _)))
      refine wpQuiet_nil ?_;rintro _ ⟨X,rfl⟩;go_wp2
      go_round
      case rel=>exact⟨k+1,by omega,by go_num,hF.o.succ HX.o ⟨⟨P,XZ.o,L3.o⟩,fun _ y hy=>by rw[HZ.o]at hy;cases hy;exact X3.o⟩,hB.o.trans (X.2.mono hz.o)⟩
      case measure=>simp[intOf];omega
    .have pw:¬(0:Int)<(k:Int):=by omega
     have X0:Hid (¬0<k):=oU;clear x0;go_wp2
     refine aj (by kernel_rfl) (by kernel_rfl) ?_;repeat(go_big_quiet_step (first|(go_at_call 91;exact pV _)))
     refine wpQuiet_nil ?_;rintro _ ⟨X,rfl⟩;go_wp2
     go_round
     case rel=>exact⟨k+1,by omega,by go_num,hF.o.succ HX.o ⟨⟨P,XZ.o,L3.o⟩,fun h=>absurd h X0.o⟩,hB.o.trans (X.2.mono hz.o)⟩
     case measure=>simp[intOf];omega
   .have pV:∀X:ah wr,Calls ZP 91 #[.slice af P.fits.length cf,.int .i64 k] X.1 (fun e gI=>e=.returned (.bool false)/\∃Y:ah wr,gI=Y.1):=fun X=>
     (jE _ _ _ k ((hf.later (Kp.boxed hB.o)).later X.kp)).mono fun e w' ⟨r,h1,h2,h3⟩=>⟨by cases r with
       |false=>exact h1
       |true=>exact absurd h2.t kK,X.same h3⟩
    have L3:=hid kK;clear kK x0;go_wp2
    refine aj (by kernel_rfl) (by kernel_rfl) ?_;repeat(go_big_quiet_step (first|(go_at_call 91;exact pV _)))
    refine wpQuiet_nil ?_;rintro _ ⟨X,rfl⟩;go_wp2
    go_ret
    exact aT.mk (r:=3) (fA oF.o Sr.o fun h=>by
     obtain⟨P',Pw,hm⟩:=(h k _ nM.o HX.o).fits;rw[XZ.o]at Pw;cases Pw;exact L3.o hm) (Below.boxed (hB.o.trans (X.2.mono hz.o)))
  .clear gg;have ek:k=l.length:=by omega
   subst ek;go_wp2
   go_ret;exact aT.mk (r:=0) (kJ ⟨oF.o,Sr.o,hF.o⟩) (Below.boxed hB.o)
theorem yh (w:World) (v:Value) (b:an) (hb:aB w v b) (hp:1<=b.parts.length/\b.parts.length<=5) (Kk:fy b):Calls ZP 171 #[v] w (aT w fun s=>s=cz b):=by
 have HB:=hid hb;have Ut:Hid (fy b):=Kk;obtain⟨v2,v3,v4,rfl,⟨a2,c2,⟨rfl,_,_,_,_⟩,_⟩,⟨a3,c3,⟨rfl,_,_,_,_⟩,_⟩,⟨a4,c4,h4,f4⟩⟩:=hb;have H4:Hid (bB w v4 b.aa.length a4 c4/\_):=⟨h4,f4⟩
 obtain⟨rfl,l4,m4,n4,r4⟩:=h4;unfold maxLen at m4;clear r4 f4 n4 Kk;by_cases XX:(4:Int)<(b.aa.length:Int)
 .go_enter ZF171,Tryz.ntmps171
  go_wp2
  go_ret;exact aT.mk (r:=2) (by unfold cz;rw[if_neg (by omega)]) ((Below.refl _ _).alloc (Nat.le_refl _) _)
 have X4:Hid (cz b=scan (cj b) b.aa.length):=pB (by omega);go_enter ZF171,Tryz.ntmps171
 go_wp2
 go_loopw [15,4] (fun i u w1=>∃k:Nat,k<=b.aa.length/\i=.int .i64 k/\Hid (scan (cj b) k=0)/\Hid (Below (w.heap.size+1) (w.alloc (.cells #[.int .i64 b.ap,.int .i64 b.places,.slice a2 b.parts.length c2,.slice a3 b.apart.length c3,.slice a4 b.aa.length c4] 66)) w1)) (fun i _ _=>b.aa.length-(intOf i).toNat)
 case atStart=>exact⟨0,Nat.zero_le _,rfl,rfl,Below.refl _ _⟩
 case round=>
  obtain⟨k,hk,rfl,hN,hB⟩:=hrel;obtain⟨s0,s1,s2,s3,s4⟩:=mr.DO hB.o;by_cases az:k<b.aa.length
  .obtain⟨⟨blk,off,sp⟩,t,rfl,hx,⟨vf,x0,hf⟩,x1,x2⟩:=H4.o.1.elem H4.o.2 az;obtain rfl:sp=none:=x0.1;have Bs:=hf;obtain⟨af,cf,⟨rfl,_,_,_,_⟩,_⟩:=hf;have HX:=hid hx;have nM:=hid az;have lH:w.heap.size+1<=wr.heap.size:=by have:=hB.o.size;simp at this;omega
   have hz:=hid lH;have s0':∀o,(wr.alloc o).cell? ⟨w.heap.size,0,none⟩=some (.int .i64 b.ap):=fun o=>(ee (by show w.heap.size<_;omega) o).trans s0;have s1':∀o,(wr.alloc o).cell? ⟨w.heap.size,1,none⟩=some (.int .i64 b.places):=fun o=>(ee (by show w.heap.size<_;omega) o).trans s1;have s2':∀o,(wr.alloc o).cell? ⟨w.heap.size,2,none⟩=some (.slice a2 b.parts.length c2):=fun o=>(ee (by show w.heap.size<_;omega) o).trans s2;have s3':∀o,(wr.alloc o).cell? ⟨w.heap.size,3,none⟩=some (.slice a3 b.apart.length c3):=fun o=>(ee (by show w.heap.size<_;omega) o).trans s3;have s4':∀o,(wr.alloc o).cell? ⟨w.heap.size,4,none⟩=some (.slice (some ⟨blk,off,none⟩) b.aa.length c4):=fun o=>(ee (by show w.heap.size<_;omega) o).trans s4;have y0:=(x0.later (Kp.boxed hB.o)).2;have y1:=(x1.later (Kp.boxed hB.o)).2;have y2:=(x2.later (Kp.boxed hB.o)).2;simp only[<-Nat.add_assoc]at y0 y1 y2;have pR:(k:Int)<(b.aa.length:Int):=by omega
   have hC:=oH (wr.alloc (.cells #[.slice af t.parts.length cf,.int .i64 t.lo,.int .i64 t.hi] 50)) _ _ _ _ ((HB.o.later (Kp.boxed hB.o)).later (Kp.alloc wr _)) ((Bs.later (Kp.boxed hB.o)).later (Kp.alloc wr _)) hp Ut.o;obtain⟨mb,LY⟩:=ex1 (bp b t.parts);have X5:=hid LY;rw[LY]at hC;clear Bs x0 x1 x2 hx LY;by_cases CH:mb=0
   .subst CH;have HMO:Hid (eC b t.parts):=ci.1 X5.o
    go_wp2_with(first
     |(go_at_call 53
       refine hC.mono ?_;rintro e w1 ⟨⟨r,rfl,rfl⟩,bu⟩;have B1:Hid (Below (w.heap.size+1) _ w1):=hB.o.step lH bu;have p1:=eH bu 1;have p2:=eH bu 2;simp only[List.getElem?_toArray,List.getElem?_cons_succ,List.getElem?_cons_zero]at p1 p2)
     |(go_at_call 94;refine(rD _ _ _ _ _ (by omega) _).mono ?_;rintro e w' ⟨r,rfl,hr,rfl⟩;cases r))
    .have HR:Hid (¬(0<=t.lo/\t.lo<=t.hi/\t.hi<=99)):=fun h=>hr.f ⟨h.1,h.2.1,h.2.2,by omega⟩;go_ret;exact aT.mk (r:=1) (X4.o.trans (aG hN.o (Cg HX.o HMO.o HR.o) (by decide) nM.o)).symm (Below.boxed (Below.alloc B1.o (by have:=B1.o.size;simpa using this) _))
    .have L1:Hid (qo b t):=⟨HMO.o,hr.t.1,hr.t.2.1,hr.t.2.2.1⟩
     clear hr;go_round
     case rel=>exact⟨k+1,by omega,by go_num,fw hN.o (vE HX.o L1.o),(Below.alloc B1.o (by have:=B1.o.size;simpa using this) _:Below _ _ _)⟩
     case measure=>simp[intOf];omega
   .have LZ:Hid (mb≠0):=CH
    go_wp2_with
     (go_at_call 53
      refine hC.mono ?_;rintro e w1 ⟨⟨r,rfl,rfl⟩,bu⟩;have B1:Hid (Below (w.heap.size+1) _ w1):=hB.o.step lH bu)
    go_ret;exact aT.mk (X4.o.trans (aG hN.o ((Ch HX.o (by rw[X5.o];exact LZ.o)).trans X5.o) LZ.o nM.o)).symm (Below.boxed B1.o)
  .have ek:k=b.aa.length:=by omega
   subst ek;go_wp2
   go_ret;exact aT.mk (r:=0) (X4.o.trans hN.o).symm (Below.boxed hB.o)
theorem GJ (w:World) (v vl:Value) (b:an) (l:List Int) (hb:aB w v b) (hl:ae w vl l) (hp:1<=b.parts.length/\b.parts.length<=5) (Kk:fy b) (lQ:eC b l):
 Calls ZP 53 #[v,vl] w (aT w fun s=>s=0):=
 (oH w v vl b l hb hl hp Kk).mono fun _ _ ⟨⟨r,h1,h2⟩,h3⟩=>⟨⟨r,h1,h2.trans (ci.2 lQ)⟩,h3⟩
structure lq (w:World):Prop where
 c0:w.cell? ⟨0,0,none⟩=some (.func (.func 168) #[] #[])
 c1:w.cell? ⟨0,1,none⟩=some (.func (.func 169) #[] #[])
 c2:w.cell? ⟨0,2,none⟩=some (.func (.func 170) #[] #[])
 c3:w.cell? ⟨0,3,none⟩=some (.func (.func 171) #[] #[])
theorem lq.on {w:World} (h:lq w) (X:ah w):lq X.1:=⟨X.cell h.c0,X.cell h.c1,X.cell h.c2,X.cell h.c3⟩
theorem lq.later {w w':World} (h:lq w) (k:Below w.heap.size w w'):lq w':=h.on ⟨w',k⟩
section
variable (w:World)
theorem X6:(Instr.index 100 (.agg #[.func (.func 168) #[] #[],.func (.func 169) #[] #[],.func (.func 170) #[] #[],.func (.func 171) #[] #[]]) (.int .i64 0)).run ZP w=.ok (.func (.func 168) #[] #[]) w:=by
 have u:ZP.underlying 100=some (.array 4 74):=by rw[Tz.under];exact Tryz.underlying100
 have a3:=Tryz.isAgg74;have z3:=Tryz.sizeOf74;simp[Instr.index,run_underlying u,asIntOf,part,go_sem,a3,z3]
theorem X7:(Instr.index 100 (.agg #[.func (.func 168) #[] #[],.func (.func 169) #[] #[],.func (.func 170) #[] #[],.func (.func 171) #[] #[]]) (.int .i64 1)).run ZP w=.ok (.func (.func 169) #[] #[]) w:=by
 have u:ZP.underlying 100=some (.array 4 74):=by rw[Tz.under];exact Tryz.underlying100
 have a3:=Tryz.isAgg74;have z3:=Tryz.sizeOf74;simp[Instr.index,run_underlying u,asIntOf,part,go_sem,a3,z3]
theorem X8:(Instr.index 100 (.agg #[.func (.func 168) #[] #[],.func (.func 169) #[] #[],.func (.func 170) #[] #[],.func (.func 171) #[] #[]]) (.int .i64 2)).run ZP w=.ok (.func (.func 170) #[] #[]) w:=by
 have u:ZP.underlying 100=some (.array 4 74):=by rw[Tz.under];exact Tryz.underlying100
 have a3:=Tryz.isAgg74;have z3:=Tryz.sizeOf74;simp[Instr.index,run_underlying u,asIntOf,part,go_sem,a3,z3]
theorem X9:(Instr.index 100 (.agg #[.func (.func 168) #[] #[],.func (.func 169) #[] #[],.func (.func 170) #[] #[],.func (.func 171) #[] #[]]) (.int .i64 3)).run ZP w=.ok (.func (.func 171) #[] #[]) w:=by
 have u:ZP.underlying 100=some (.array 4 74):=by rw[Tz.under];exact Tryz.underlying100
 have a3:=Tryz.isAgg74;have z3:=Tryz.sizeOf74;simp[Instr.index,run_underlying u,asIntOf,part,go_sem,a3,z3]
end
section
variable {b:an}
theorem AG (h:bG b≠0):aK b=bG b:=by
 have h2:¬((1<=b.ap/\b.ap<=99)/\1<=b.places/\b.places<=4):=fun k=>h (dc.2 k);rw[iO h2];unfold aK;rw[if_neg h2]
theorem AH (h0:bG b=0) (h:aU b.places b.parts≠0):aK b=aU b.places b.parts:=by
 unfold aK;rw[if_pos (dc.1 h0),if_neg h]
theorem AI (h0:bG b=0) (h1:aU b.places b.parts=0) (h:bi b.parts.length b.apart≠0):aK b=bi b.parts.length b.apart:=by
 unfold aK;rw[if_pos (dc.1 h0),if_pos h1,if_neg h]
theorem pD (h0:bG b=0) (h1:aU b.places b.parts=0) (h2:bi b.parts.length b.apart=0):aK b=cz b:=by
 unfold aK;rw[if_pos (dc.1 h0),if_pos h1,if_pos h2]
end
def Su (b:an) (k:Int):Prop:=k=0\/(k=1/\bG b=0)\/(k=2/\bG b=0/\aU b.places b.parts=0)\/(k=3/\bG b=0/\aU b.places b.parts=0/\bi b.parts.length b.apart=0)\/(k=4/\aK b=0)
theorem ff (w:World) (v:Value) (b:an) (hb:aB w v b) (hs:di b) (hc:lq w):Calls ZP 20 #[v] w (aT w fun s=>s=aK b):=by
 have HB:=hid hb;have HS:Hid (di b):=hs;obtain⟨v2,v3,v4,rfl,⟨a2,c2,⟨rfl,_,_,_,_⟩,_⟩,⟨a3,c3,⟨rfl,_,_,_,_⟩,_⟩,⟨a4,c4,⟨rfl,_,_,_,_⟩,_⟩⟩:=hb;obtain⟨k0,k1,k2,k3⟩:=hc.later ((Below.refl _ _).alloc (Nat.le_refl _) (.cells #[.int .i64 b.ap,.int .i64 b.places,.slice a2 b.parts.length c2,.slice a3 b.apart.length c3,.slice a4 b.aa.length c4] 26));clear hs hc;go_enter ZF20,Tryz.ntmps20
 go_wp2
 go_loopw [7,4,5] (fun i u v w1=>∃k:Int,Hid (Su b k)/\i=.int .i64 k/\Hid (Below (w.heap.size+1) (w.alloc (.cells #[.int .i64 b.ap,.int .i64 b.places,.slice a2 b.parts.length c2,.slice a3 b.apart.length c3,.slice a4 b.aa.length c4] 26)) w1)) (fun i _ _ _=>4-(intOf i).toNat)
 case atStart=>exact⟨0,(.inl rfl:_\/_),rfl,Below.refl _ _⟩
 case round=>
  obtain⟨k,hk,rfl,hB⟩:=hrel;clear k0 k1 k2 k3;obtain⟨s0,s1,s2,s3,s4⟩:=mr.DO hB.o;have bu:=HB.o.later (Kp.boxed hB.o);have hs:=hB.o.size;simp at hs;rcases hk.o with rfl|⟨rfl,ho⟩|⟨rfl,ho,hp⟩|⟨rfl,ho,hp,hq⟩|⟨rfl,hz⟩
  .have ix:=X6 wr;clear hk;go_wp2_with(go_at_call 168;refine(AD _ _ _ bu).mono ?_;rintro e w1 ⟨⟨r,rfl,hr⟩,fk⟩;have HR:Hid (r=bG b):=hr;clear hr;by_cases h0:r=0)
   .go_round
    case rel=>exact⟨1,(.inr (.inl ⟨rfl,by rw[<-HR.o];exact h0⟩):Su b 1),rfl,hB.o.trans (fk.mono hs)⟩
    case measure=>simp[intOf]
   .go_ret;exact aT.mk (HR.o.trans (AG (by rw[<-HR.o];exact h0)).symm) (Below.boxed (hB.o.trans (fk.mono hs)))
  .have ix:=X7 wr;have HO:=hid ho;have jo:=(dc.1 ho).2;clear hk ho;go_wp2_with(go_at_call 169;refine(AE _ _ _ bu HS.o jo).mono ?_;rintro e w1 ⟨⟨r,rfl,hr⟩,fk⟩;have HR:Hid (r=aU b.places b.parts):=hr;clear hr;by_cases h0:r=0)
   .go_round
    case rel=>exact⟨2,(.inr (.inr (.inl ⟨rfl,HO.o,by rw[<-HR.o];exact h0⟩)):Su b 2),rfl,hB.o.trans (fk.mono hs)⟩
    case measure=>simp[intOf]
   .go_ret;exact aT.mk (HR.o.trans (AH HO.o (by rw[<-HR.o];exact h0)).symm) (Below.boxed (hB.o.trans (fk.mono hs)))
  .have ix:=X8 wr;have HO:Hid (bG b=0/\aU b.places b.parts=0):=⟨ho,hp⟩
   have L0:=(eU.1 hp).many;clear hk ho hp;go_wp2_with(go_at_call 170;refine(AF _ _ _ bu L0).mono ?_;rintro e w1 ⟨⟨r,rfl,hr⟩,fk⟩;have HR:Hid (r=bi b.parts.length b.apart):=hr;clear hr;by_cases h0:r=0)
   .go_round
    case rel=>exact⟨3,(.inr (.inr (.inr (.inl ⟨rfl,HO.o.1,HO.o.2,by rw[<-HR.o];exact h0⟩))):Su b 3),rfl,hB.o.trans (fk.mono hs)⟩
    case measure=>simp[intOf]
   .go_ret;exact aT.mk (HR.o.trans (AI HO.o.1 HO.o.2 (by rw[<-HR.o];exact h0)).symm) (Below.boxed (hB.o.trans (fk.mono hs)))
  .have ix:=X9 wr;have HO:Hid (bG b=0/\aU b.places b.parts=0/\bi b.parts.length b.apart=0):=⟨ho,hp,hq⟩
   have L0:=(eU.1 hp).many;have Kk:=ig.1 hq;clear hk ho hp hq;go_wp2_with(go_at_call 171;refine(yh _ _ _ bu L0 Kk).mono ?_;rintro e w1 ⟨⟨r,rfl,hr⟩,fk⟩;have HR:Hid (r=cz b):=hr;clear hr;by_cases h0:r=0)
   .go_round
    case rel=>exact⟨4,(.inr (.inr (.inr (.inr ⟨rfl,(pD HO.o.1 HO.o.2.1 HO.o.2.2).trans (by rw[<-HR.o];exact h0)⟩))):Su b 4),rfl,hB.o.trans (fk.mono hs)⟩
    case measure=>simp[intOf]
   .go_ret;exact aT.mk (HR.o.trans (pD HO.o.1 HO.o.2.1 HO.o.2.2).symm) (Below.boxed (hB.o.trans (fk.mono hs)))
  .have HZ:=hid hz;clear hk hz;go_wp2
   go_ret;exact aT.mk (r:=0) HZ.o.symm (Below.boxed hB.o)
theorem yi {b:an} (h:Valid b):di b:=fun j x hj hx=>by
 have:=(h.parts.all j x hj hx).1.name.2.1;omega
theorem jF (w:World) (v:Value) (b:an) (hb:aB w v b) (hv:Valid b) (hc:lq w):Calls ZP 20 #[v] w (aT w fun s=>s=0):=
 (ff w v b hb (yi hv) hc).mono fun _ _ ⟨⟨r,h1,h2⟩,h3⟩=>⟨⟨r,h1,h2.trans (ck.2 hv)⟩,h3⟩
end Go.Proofs.Cz
