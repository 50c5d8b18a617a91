/- A part. Conditions: none. -/
import Derived.Test.YtehbindidbgacaaGreatDoorT26
import Derived.Laws.IdiomStrings
set_option linter.all false
set_option maxHeartbeats 8000000
set_option maxRecDepth 100000
namespace Go.Proofs.Cz
open Go.RowKit
theorem xu (w:World) (s:ByteArray):∃cap w',(convert 9 202 (.string s)).run ZP w=.ok (.slice (some ⟨w.heap.size,0,none⟩) s.size cap) w'/\Below w.heap.size w w'/\∀j (hj:j<s.size),w'.cell? ⟨w.heap.size,j,none⟩=some (.int .u8 s[j].toNat):=by
 have u9:ZP.underlying 9=some .string:=by rw[Tz.under];exact Tryz.underlying9
 have Yh:ZP.underlying 202=some (.slice 5):=by rw[Tz.under];exact Tryz.underlying202
 have u5:ZP.underlying 5=some (.int .u8):=by rw[Tz.under];exact Tryz.underlying5
 refine⟨_,_,run_bytes_of_string w 9 202 5 s u9 Yh u5,?_,?_⟩
 .exact Below.alloc (Below.drewN (Below.refl _ _) 1) (Nat.le_refl _) _
 .intro j hj;exact(World.cell?_alloc_mark _ _ _ _ _).trans (bytesRow_at s _ j hj)
theorem uV (w:World) (s:ByteArray) (h:sH s):Calls ZP 159 #[.string s] w (dc w fun r=>r=true):=by
 obtain⟨h1,h2,hN⟩:=h;have HN:=hid hN;clear hN;obtain⟨cap,w1,NF,hb,hc⟩:=xu w s;have HB:=hid hb;have HC:=hid hc;clear hb hc;go_enter ZF159,Tryz.ntmps159
 go_wp2
 go_loop [8,3,4] (fun i u v=>∃k:Nat,k<=s.size/\i=.int .i64 k) (fun i _ _=>s.size-(intOf i).toNat)
 case atStart=>exact⟨0,Nat.zero_le _,rfl⟩
 case round=>
  obtain⟨k,hk,rfl⟩:=hrel;by_cases ao:k<s.size
  .have y0:=HC.o k ao;have mQ:(k:Int)<(s.size:Int):=by omega
   rcases HN.o k ao ao with hl|⟨pg,hd⟩
   .obtain⟨a1,a2⟩:=hl;go_wp2
    go_round
    case rel=>exact⟨k+1,by omega,by go_num⟩
    case measure=>simp[intOf];omega
   .obtain⟨a1,a2⟩:=hd;have mX:(0:Int)<(k:Int):=by omega
    have a3:¬(97:Int)<=s[k].toNat:=by omega
    go_wp2
    go_round
    case rel=>exact⟨k+1,by omega,by go_num⟩
    case measure=>simp[intOf];omega
  .clear NF;go_wp2_with(go_at_call 92;refine(CX _ _ _ _).mono ?_;rintro e w' ⟨r,rfl,hr,rfl⟩)
   go_ret;exact dc.mk (hr.2 (by omega)) HB.o
end Go.Proofs.Cz
namespace Go.Proofs.Cz
open Go.RowKit
end Go.Proofs.Cz
namespace Go.RowKit
theorem Below.step {B:Nat} {a w w1:World} {o:Obj} (h:Below B a w) (hs:B<=w.heap.size) (k:Below (w.alloc o).heap.size (w.alloc o) w1):Below B a w1:=
 (Below.alloc h hs o).trans (k.mono (by simp;omega))
end Go.RowKit
namespace Go.Proofs.Cz
open Go.RowKit
variable {a:Option Addr} {cap k n:Nat} {w:World}
theorem dJ {w1:World} {cs:Array Value} {t:Nat} (h:Below (w.alloc (.cells cs t)).heap.size (w.alloc (.cells cs t)) w1) (k:Nat):w1.cell? ⟨w.heap.size,k,none⟩=cs[k]?:=boxed h.gP k
theorem cm.take {v:Value} (h:cm w v n a cap) (hk:k<=n):cm w (.slice a k cap) k a cap:=
 ⟨rfl,Nat.le_trans hk h.le,h.Lb,h.nil,h.row⟩
theorem bL.take {l:List Part} (h:bL w (.slice a n cap) l) (hk:k<=l.length):bL w (.slice a k cap) (l.take k):=by
 obtain⟨a',dO,h1,h2⟩:=h;obtain⟨rfl,-,rfl⟩:a=a'/\_/\cap=dO:=by simpa using h1.eq
 have hl:(l.take k).length=k:=by simp;omega
 refine⟨a,cap,by rw[hl];exact h1.take hk,fun b e j x hj=>h2 b e j x ?_⟩;have mL:j<k:=by have:=(List.getElem?_eq_some_iff.1 hj).1;omega
 rw[List.getElem?_take]at hj;simpa [mL]using hj
theorem dx.take {l:List (Int×Int)} (h:dx w (.slice a n cap) l) (hk:k<=l.length):dx w (.slice a k cap) (l.take k):=by
 obtain⟨a',dO,h1,h2⟩:=h;obtain⟨rfl,-,rfl⟩:a=a'/\_/\cap=dO:=by simpa using h1.eq
 have hl:(l.take k).length=k:=by simp;omega
 refine⟨a,cap,by rw[hl];exact h1.take hk,fun b e j x hj=>h2 b e j x ?_⟩;have mL:j<k:=by have:=(List.getElem?_eq_some_iff.1 hj).1;omega
 rw[List.getElem?_take]at hj;simpa [mL]using hj
theorem sO (w:World) (g:Nat) (n1 nm:ByteArray) (a b c d:Int) (vf:Value) (af:Option Addr) (lf cf:Nat) (J9:vf=.slice af lf cf) (hg:w.cell? ⟨g,0,none⟩=some (.string nm)) (bC:n1≠nm):
 Calls ZP 161 #[.agg #[.string n1,.int .i64 a,.int .i64 b,.int .i64 c,.int .i64 d,vf],.pointer (some ⟨g,0,none⟩)] w (dc w fun r=>r=false):=by
 subst J9;have pz:=(Kp.alloc w (.cells #[.string n1,.int .i64 a,.int .i64 b,.int .i64 c,.int .i64 d,.slice af lf cf] 77))
 have Pa:(w.alloc (.cells #[.string n1,.int .i64 a,.int .i64 b,.int .i64 c,.int .i64 d,.slice af lf cf] 77)).cell? ⟨g,0,none⟩=some (.string nm):=
  (aj.cell ⟨_,(Below.refl _ _).alloc (Nat.le_refl _) _⟩ hg:_)
 have hd:(n1.toList==nm.toList)=false:=by
  cases hh:(n1.toList==nm.toList)with
  |false=>rfl
  |true=>exact absurd (yQ hh) bC
 clear pz;go_enter ZF161,Tryz.ntmps161
 go_wp2
 go_ret;exact dc.mk rfl ((Below.refl _ _).alloc (Nat.le_refl _) _)
theorem uW (w:World) (v:Value) (l:List Part) (g:Nat) (nm:ByteArray) (h:bL w v l) (hg:w.cell? ⟨g,0,none⟩=some (.string nm)) (bC:∀x∈l,x.name≠nm):
 Calls ZP 162 #[v,.func (.func 161) #[] #[.pointer (some ⟨g,0,none⟩)]] w (bT w fun r=>r=-1):=by
 obtain⟨a,c,h1,h2⟩:=h;have H:Hid (cm w v l.length a c/\_):=⟨h1,h2⟩
 have HG:=hid hg;obtain⟨rfl,l1,m1,n1,r1⟩:=h1;unfold maxLen at m1;clear h2 n1 r1 hg;go_enter ZF162,Tryz.ntmps162
 go_wp2
 go_loopw [8,5] (fun i j w1=>∃k:Nat,k<=l.length/\i=.int .i64 k/\Hid (Below w.heap.size w w1)) (fun i _ _=>l.length-(intOf i).toNat)
 case atStart=>exact⟨0,Nat.zero_le _,rfl,Below.refl _ _⟩
 case round=>
  obtain⟨k,hk,rfl,hB⟩:=hrel;by_cases ao:k<l.length
  .obtain⟨⟨blk,off,sp⟩,x,rfl,hx,x0,x1,x2,x3,x4,vf,x5,x6⟩:=H.o.1.elem H.o.2 ao;obtain rfl:sp=none:=x0.1;obtain⟨af,cf,hf,_⟩:=x6;obtain⟨rfl,lf,mf,_,_⟩:=hf;have y0:=(x0.later (Kp.of hB.o)).2;have y1:=(x1.later (Kp.of hB.o)).2;have y2:=(x2.later (Kp.of hB.o)).2;have y3:=(x3.later (Kp.of hB.o)).2;have y4:=(x4.later (Kp.of hB.o)).2;have y5:=(x5.later (Kp.of hB.o)).2;simp only[<-Nat.add_assoc]at y0 y1 y2 y3 y4 y5;have mQ:(k:Int)<(l.length:Int):=by omega
   have Yi:=aj.cell ⟨wr,hB.o⟩ HG.o;have xQ:=bC x (List.mem_of_getElem? hx);clear x0 x1 x2 x3 x4 x5 hx
   go_wp2_with
    (go_at_call 161
     refine(sO _ _ _ _ _ _ _ _ _ _ _ _ rfl Yi xQ).mono ?_;rintro e w1 ⟨⟨r,rfl,rfl⟩,cO⟩)
   go_round
   case rel=>exact⟨k+1,by omega,by go_num,hB.o.trans (cO.mono hB.o.size)⟩
   case measure=>simp[intOf];omega
  .go_wp2
   go_ret;exact bT.mk (r:=-1) rfl hB.o
theorem uX (w:World) (v:Value) (l:List Part) (g:Nat) (nm:ByteArray) (h:bL w v l) (hg:w.cell? ⟨g,0,none⟩=some (.string nm)) (bC:∀x∈l,x.name≠nm):
 Calls ZP 160 #[v,.func (.func 161) #[] #[.pointer (some ⟨g,0,none⟩)]] w (dc w fun r=>r=false):=by
 go_enter ZF160,Tryz.ntmps160
 go_wp2_with
  (go_at_call 162
   refine(uW _ _ _ _ _ h hg bC).mono ?_;rintro e w1 ⟨⟨r,rfl,rfl⟩,cO⟩)
 go_ret;exact dc.mk rfl cO
end Go.Proofs.Cz
namespace Go.Proofs.Cz
open Go.RowKit
theorem cF.eq {w:World} {P:Bool->Prop} {v:Value} {r:Bool} (h:P r) (e:v=.bool r):cF w P (.returned v) w:=by subst e;exact .mk h
theorem Al (w:World) (v:Value) (l:List Int) (x:Int) (h:aP w v l):Calls ZP 106 #[v,.int .i64 x] w (fun e w'=>∃r,e=.returned (.int .i64 r)/\(0<=r↔x∈l)/\w'=w):=by
 obtain⟨a,c,h1,h2⟩:=h;have H:Hid (cm w v l.length a c/\_):=⟨h1,h2⟩
 obtain⟨rfl,l1,m1,n1,r1⟩:=h1;unfold maxLen at m1;clear h2 n1 r1;go_enter ZF106,Tryz.ntmps106
 go_wp2
 go_loop [8,5] (fun i j=>∃k:Nat,k<=l.length/\Hid (gh l x k)/\i=.int .i64 k) (fun i _=>l.length-(intOf i).toNat)
 case atStart=>exact⟨0,Nat.zero_le _,gh.zero l x,rfl⟩
 case round=>
  obtain⟨k,hk,hN,rfl⟩:=hrel;by_cases ao:k<l.length
  .obtain⟨⟨blk,off,sp⟩,y,rfl,hy,y0⟩:=H.o.1.elem H.o.2 ao;obtain rfl:sp=none:=y0.1;have g0:=y0.2;simp only at g0;have HY:=hid hy;have mQ:(k:Int)<(l.length:Int):=by omega
   clear y0 hy;by_cases e:x=y
   .subst e;go_wp2
    go_ret;exact⟨k,rfl,⟨fun _=>List.mem_of_getElem? HY.o,fun _=>by omega⟩,rfl⟩
   .have e':Hid (y≠x):=fun h=>e h.symm;go_wp2
    go_round
    case rel=>exact⟨k+1,by omega,hN.o.succ HY.o e'.out,by go_num⟩
    case measure=>simp[intOf];omega
  .have HN:Hid (x∉l):=(by have e:k=l.length:=by omega
                          subst e;exact hN.o.all)
   go_wp2
   go_ret;exact⟨-1,rfl,⟨fun h=>by omega,fun h=>absurd h HN.o⟩,rfl⟩
theorem sP (w:World) (v:Value) (l:List Int) (x:Int) (h:aP w v l):Calls ZP 84 #[v,.int .i64 x] w (cF w fun r=>Tr r (x∈l)):=by
 go_enter ZF84,Tryz.ntmps84
 go_wp2_with
  (go_at_call 106
   refine(Al _ _ _ x h).mono ?_;rintro e w1 ⟨r,rfl,hr,rfl⟩;by_cases h0:0<=r)
 .have hx:Hid (x∈l):=hr.1 h0;go_ret;exact cF.eq (r:=true) (Tr.yes hx.o) (by simp[hx.o])
 .have hx:Hid (¬x∈l):=fun h=>by have:=hr.2 h;omega
  go_ret;exact cF.eq (r:=false) (Tr.no hx.o) (by simp[hx.o])
theorem pW (w:World) (v:Value) (l:List (Int×Int)) (p q:Int) (h:dx w v l):
 Calls ZP 136 #[v,.agg #[.int .i64 p,.int .i64 q]] w (bT w fun r=>0<=r↔(p,q)∈l):=by
 obtain⟨a,c,h1,h2⟩:=h;have H:Hid (cm w v l.length a c/\_):=⟨h1,h2⟩
 obtain⟨rfl,l1,m1,n1,r1⟩:=h1;unfold maxLen at m1;clear h2 n1 r1;go_enter ZF136,Tryz.ntmps136
 go_wp2
 go_loopw [8,5] (fun i j w1=>∃k:Nat,k<=l.length/\Hid (gi l (p,q) k)/\i=.int .i64 k/\∃n,w1=(w.alloc (.cells #[.int .i64 p,.int .i64 q] 125)).drewN n) (fun i _ _=>l.length-(intOf i).toNat)
 case atStart=>exact⟨0,Nat.zero_le _,gi.zero l _,rfl,0,rfl⟩
 case round=>
  obtain⟨k,hk,hN,rfl,n0,rfl⟩:=hrel;by_cases ao:k<l.length
  .obtain⟨⟨blk,off,sp⟩,⟨ya,yb⟩,rfl,hy,y0,y1⟩:=H.o.1.elem H.o.2 ao;obtain rfl:sp=none:=y0.1;have g0:=(y0.later (Kp.alloc w (.cells #[.int .i64 p,.int .i64 q] 125))).2;have g1:=(y1.later (Kp.alloc w (.cells #[.int .i64 p,.int .i64 q] 125))).2;simp only[<-Nat.add_assoc]at g0 g1;have HY:=hid hy;have mQ:(k:Int)<(l.length:Int):=by omega
   clear y0 y1 hy;by_cases e1:p=ya
   .subst e1;by_cases e2:q=yb
    .subst e2;go_wp2
     go_quiet (fail)
     go_wp2
     go_ret;exact bT.mk (r:=k) ⟨fun _=>List.mem_of_getElem? HY.o,fun _=>by omega⟩ (Below.drewN (Below.drewN (Below.alloc (Below.refl _ _) (Nat.le_refl _) _) _) _)
    .have bC:Hid ((p,yb)≠(p,q)):=(fun h=>e2 (by cases h;rfl):(p,yb)≠(p,q))
     go_wp2
     go_quiet (fail)
     go_wp2
     go_round
     case rel=>exact⟨k+1,by omega,hN.o.succ HY.o bC.o,by go_num,_,rfl⟩
     case measure=>simp[intOf];omega
   .have bC:Hid ((ya,yb)≠(p,q)):=(fun h=>e1 (by cases h;rfl):(ya,yb)≠(p,q))
    go_wp2
    go_quiet (fail)
    go_wp2
    go_round
    case rel=>exact⟨k+1,by omega,hN.o.succ HY.o bC.o,by go_num,_,rfl⟩
    case measure=>simp[intOf];omega
  .have HN:Hid ((p,q)∉l):=(by
    have e:k=l.length:=by omega
    subst e;intro hm;obtain⟨j,hj,mL⟩:=List.getElem_of_mem hm;exact hN.o j _ hj (List.getElem?_eq_getElem hj) mL)
   go_wp2
   go_ret;exact bT.mk (r:=-1) ⟨fun h=>by omega,fun h=>absurd h HN.o⟩ (Below.drewN (Below.alloc (Below.refl _ _) (Nat.le_refl _) _) _)
theorem dy (w:World) (v:Value) (l:List (Int×Int)) (p q:Int) (h:dx w v l):
 Calls ZP 122 #[v,.agg #[.int .i64 p,.int .i64 q]] w (dc w fun r=>Tr r ((p,q)∈l)):=by
 go_enter ZF122,Tryz.ntmps122
 have h':=h.later (Kp.alloc w (.cells #[.int .i64 p,.int .i64 q] 125))
 go_wp2_with
  (go_at_call 136
   refine(pW _ _ _ p q h').mono ?_;rintro e w1 ⟨⟨r,rfl,hr⟩,cO⟩;by_cases h0:0<=r)
 .have hx:Hid ((p,q)∈l):=hr.1 h0;go_ret;exact dc.eq (r:=true) (Tr.yes hx.o) (Below.step (Below.refl _ _) (Nat.le_refl _) cO) (by simp[hx.o])
 .have hx:Hid (¬(p,q)∈l):=fun h=>by have:=hr.2 h;omega
  go_ret;exact dc.eq (r:=false) (Tr.no hx.o) (Below.step (Below.refl _ _) (Nat.le_refl _) cO) (by simp[hx.o])
theorem Am (w:World) (v:Value) (b:aW) (hb:az w v b) (h:Valid b):Calls ZP 155 #[v] w (bT w fun r=>r=0):=by
 obtain⟨v2,v3,v4,rfl,⟨a2,c2,⟨rfl,_,_,_,_⟩,_⟩,⟨a3,c3,⟨rfl,_,_,_,_⟩,_⟩,⟨a4,c4,⟨rfl,_,_,_,_⟩,_⟩⟩:=hb;obtain⟨h1,h2,_,_,_,_⟩:=h;have d1:(decide (1<=b.ap)&&decide (b.ap<=99))=true:=by simpa using h1
 have d2:(decide (1<=b.places)&&decide (b.places<=4))=true:=by simpa using h2
 clear h1 h2;go_enter ZF155,Tryz.ntmps155
 go_wp2_with(go_at_call 92;refine(cG _ _ _ _).mono ?_;(first|rw[d1]|rw[d2]);rintro e w' ⟨rfl,rfl⟩)
 go_ret;exact bT.mk (r:=0) rfl ((Below.refl _ _).alloc (Nat.le_refl _) _)
theorem An (w:World) (v:Value) (b:aW) (hb:az w v b) (h:Valid b):Calls ZP 156 #[v] w (bT w fun r=>r=0):=by
 obtain⟨v2,v3,v4,rfl,CZ,h3,h4⟩:=hb;have Kg:=hid CZ;obtain⟨a2,c2,h2,f2⟩:=CZ;have H2:Hid (cm w v2 b.parts.length a2 c2/\_):=⟨h2,f2⟩
 have HV:Hid (Valid b):=h;obtain⟨rfl,l2,m2,n2,r2⟩:=h2;obtain⟨a3,c3,⟨rfl,_,_,_,_⟩,_⟩:=h3;obtain⟨a4,c4,⟨rfl,_,_,_,_⟩,_⟩:=h4;unfold maxLen at m2;clear r2 f2 n2;have hm:=h.parts.many;have ZN:=h.places;have d1:(decide ((1:Int)<=(b.parts.length:Int))&&decide ((b.parts.length:Int)<=5))=true:=by simp;omega
 clear h;go_enter ZF156,Tryz.ntmps156
 go_wp2_with(go_at_call 92;refine(cG _ _ _ _).mono ?_;rw[d1];rintro e w' ⟨rfl,rfl⟩)
 go_loopw [17,3,4] (fun i u v w1=>∃k:Nat,k<=b.parts.length/\i=.int .i64 k/\Hid (Below (w.heap.size+1) (w.alloc (.cells #[.int .i64 b.ap,.int .i64 b.places,.slice a2 b.parts.length c2,.slice a3 b.apart.length c3,.slice a4 b.ah.length c4] 84)) w1)) (fun i _ _ _=>b.parts.length-(intOf i).toNat)
 case atStart=>exact⟨0,Nat.zero_le _,rfl,Below.refl _ _⟩
 case round=>
  obtain⟨k,hk,rfl,hB⟩:=hrel;have g1:=boxed hB.o 1;have g2:=boxed hB.o 2;simp only[List.getElem?_toArray,List.getElem?_cons_succ,List.getElem?_cons_zero]at g1 g2;by_cases ao:k<b.parts.length
  .obtain⟨⟨blk,off,sp⟩,x,rfl,hx,x0,x1,x2,x3,x4,vf,x5,x6⟩:=H2.o.1.elem H2.o.2 ao;obtain rfl:sp=none:=x0.1;have x7:=x6.later (Kp.boxed hB.o);obtain⟨af,cf,hf,_⟩:=x6;obtain⟨rfl,lf,mf,_,_⟩:=hf;unfold maxLen at mf;have HX:Hid (b.parts[k]?=some x/\aP wr (.slice af x.fits.length cf) x.fits):=⟨hx,x7⟩
   have HP:Hid (sI b.places x/\∀i y,i<k->b.parts[i]?=some y->y.name≠x.name):=HV.o.parts.all k x ao hx;have AL:=HP.o.1.name;have y0:=(x0.later (Kp.boxed hB.o)).2;have y1:=(x1.later (Kp.boxed hB.o)).2;have y2:=(x2.later (Kp.boxed hB.o)).2;have y3:=(x3.later (Kp.boxed hB.o)).2;have y4:=(x4.later (Kp.boxed hB.o)).2;have y5:=(x5.later (Kp.boxed hB.o)).2;simp only[<-Nat.add_assoc]at y0 y1 y2 y3 y4 y5;have sw:w.heap.size+1<=wr.heap.size:=by have:=hB.o.size;simp at this;omega
   have AV:blk<w.heap.size:=x0.lt;have mQ:(k:Int)<(b.parts.length:Int):=by omega
   clear x0 x1 x2 x3 x4 x5 x7 hx;have Hx:=HP.o.1.cost;have C0:=HP.o.1.eC;have NG:=HP.o.1.time;have NH:=HP.o.1.wide;have e1:(decide (0<=x.cost)&&decide (x.cost<=99))=true:=by simpa using Hx
   have e2:(decide (0<=x.eC)&&decide (x.eC<=3))=true:=by simpa using C0
   have Hy:x.lo>=0/\x.lo<=x.hi/\x.hi<=20/\x.hi-x.lo<4:=by omega
   have HS:=hid Hy;clear Hx C0 NG NH Hy
   go_wp2_with(first
    |(go_at_call 159
      refine(uV _ _ AL).mono ?_;rintro e w1 ⟨⟨r,rfl,rfl⟩,cO⟩;have B1:Hid (Below (w.heap.size+1) _ w1):=hB.o.step sw cO;have p0:=dJ cO 0;have p1:=dJ cO 1;have p2:=dJ cO 2;have p3:=dJ cO 3;have p4:=dJ cO 4;have p5:=dJ cO 5;have q1:=boxed B1.o 1;have q2:=boxed B1.o 2;simp only[List.getElem?_toArray,List.getElem?_cons_succ,List.getElem?_cons_zero]at p0 p1 p2 p3 p4 p5 q1 q2)
    |(go_at_call 160
      refine(uX _ _ (b.parts.take k) _ x.name ((Kg.o.later (Kp.boxed B1.o)).take hk) p0 (fun y hy=>?_)).mono ?_
      .obtain⟨j,hj,rfl⟩:=List.getElem_of_mem hy;rw[List.getElem_take];have mL:j<k:=by simp at hj;omega
       exact HP.o.2 j _ mL (List.getElem?_eq_getElem _)
      rintro e w2 ⟨⟨r,rfl,rfl⟩,iW⟩;have B2:Hid (Below (w.heap.size+1) _ w2):=B1.o.trans (iW.mono (by have:=B1.o.size;simpa using this));have s1:=aj.cell ⟨w2,iW⟩ p1;have s2:=aj.cell ⟨w2,iW⟩ p2;have s3:=aj.cell ⟨w2,iW⟩ p3;have s4:=aj.cell ⟨w2,iW⟩ p4;have s5:=aj.cell ⟨w2,iW⟩ p5;have t1:=aj.cell ⟨w2,iW⟩ q1;simp only at s1 s2 s3 s4 s5 t1;have ZR:∀o,(w2.alloc o).cell? ⟨wr.heap.size,5,none⟩=_:=fun o=>aj.cell ⟨w2.alloc o,(Below.refl _ _).alloc (Nat.le_refl _) o⟩ s5;have ZT:∀o,(w2.alloc o).cell? ⟨w.heap.size,1,none⟩=_:=fun o=>aj.cell ⟨w2.alloc o,(Below.refl _ _).alloc (Nat.le_refl _) o⟩ t1;have HF:Hid (∀o,aP (w2.alloc o) (.slice af x.fits.length cf) x.fits):=fun o=>(HX.o.2.later (Kp.trans (Kp.alloc wr _) (Kp.of cO) (by simp))).later (Kp.trans (Kp.of iW) (Kp.alloc w2 o) iW.size);clear p0 p1 p2 p3 p4 p5 q1 q2)
    |(go_at_call 92;refine(cG _ _ _ _).mono ?_;(first|rw[e1]|rw[e2]);rintro e w' ⟨rfl,rfl⟩)
    |(go_at_call 77;refine(oR _ _ _ _ _ (by omega) _).mono ?_;rintro e w' ⟨r,rfl,hr,rfl⟩;obtain rfl:r=true:=hr.2 HS.o))
   have ND:wrap64 (b.places-1)=b.places-1:=by unfold wrap64;omega
   go_loop [51,5,6] (fun i u v=>∃m:Nat,m<=x.fits.length/\i=.int .i64 m) (fun i _ _=>x.fits.length-(intOf i).toNat)
   case atStart=>exact⟨0,Nat.zero_le _,rfl⟩
   case round=>
    obtain⟨m,Lc,rfl⟩:=hrel;by_cases gD:m<x.fits.length
    .obtain⟨a',dO,vV,Pb⟩:=HF.o (.cells #[.int .i64 x.lo,.int .i64 x.hi] 43);have he:=vV.eq;simp only[Value.slice.injEq]at he;obtain⟨rfl,-,rfl⟩:=he;obtain⟨⟨fb,fo,fs⟩,y,rfl,hy,y0⟩:=vV.elem Pb gD;obtain rfl:fs=none:=y0.1;have z0:=y0.2;simp only at z0;have EK:=HP.o.1.J6 m y gD hy;have e3:(decide (0<=y)&&decide (y<=b.places-1))=true:=by simpa using And.intro EK.1 EK.2.1
     have NC:(m:Int)<(x.fits.length:Int):=by omega
     obtain⟨-,-,Sy⟩:=EK;by_cases D6:0<m
     .obtain⟨b',z,CW,Hv,z1⟩:=vV.elem Pb (show m-1<x.fits.length by omega);cases CW;have z1:=z1.2;simp only at z1;have Yc:¬y<=z:=by have:=Sy z D6 Hv;omega
      have qf:wrap64 ((m:Int)-1)=((m-1:Nat):Int):=by unfold wrap64;omega
      have mX:(0:Int)<(m:Int):=by omega
      have nG:((m-1:Nat):Int)<(x.fits.length:Int):=by omega
      clear Hv Sy vV Pb y0 hy;go_wp2_with(go_at_call 92;refine(cG _ _ _ _).mono ?_;rw[e3];rintro e w' ⟨rfl,rfl⟩)
      go_round
      case rel=>exact⟨m+1,by omega,by go_num⟩
      case measure=>simp[intOf];omega
     .have mX:¬(0:Int)<(m:Int):=by omega
      clear Sy vV Pb y0 hy;go_wp2_with(go_at_call 92;refine(cG _ _ _ _).mono ?_;rw[e3];rintro e w' ⟨rfl,rfl⟩)
      go_round
      case rel=>exact⟨m+1,by omega,by go_num⟩
      case measure=>simp[intOf];omega
    .go_wp2
     go_round
     case rel=>exact⟨k+1,by omega,by go_num,(Below.alloc B2.o (by have:=B2.o.size;simpa using this) _:Below _ _ _)⟩
     case measure=>simp[intOf];omega
  .go_wp2
   go_ret;exact bT.mk (r:=0) rfl (Below.boxed hB.o)
theorem Ao (w:World) (v:Value) (b:aW) (hb:az w v b) (h:Valid b):Calls ZP 157 #[v] w (bT w fun r=>r=0):=by
 obtain⟨v2,v3,v4,rfl,h2,CZ,h4⟩:=hb;have Kg:=hid CZ;obtain⟨a3,c3,h3,f3⟩:=CZ;have H3:Hid (cm w v3 b.apart.length a3 c3/\_):=⟨h3,f3⟩
 have HV:Hid (Valid b):=h;obtain⟨rfl,l3,m3,n3,r3⟩:=h3;obtain⟨a2,c2,⟨rfl,_,m2,_,_⟩,_⟩:=h2;obtain⟨a4,c4,⟨rfl,_,_,_,_⟩,_⟩:=h4;unfold maxLen at m3;clear r3 f3 n3 m2;have hm:=h.fW.many;have Sz:=h.parts.many;have nB:wrap64 ((b.parts.length:Int)-1)=b.parts.length-1:=by unfold wrap64;omega
 have Pc:¬(5:Int)<(b.apart.length:Int):=by omega
 clear h;go_enter ZF157,Tryz.ntmps157
 go_wp2
 go_loopw [14,3,4] (fun i u v w1=>∃k:Nat,k<=b.apart.length/\i=.int .i64 k/\Hid (Below (w.heap.size+1) (w.alloc (.cells #[.int .i64 b.ap,.int .i64 b.places,.slice a2 b.parts.length c2,.slice a3 b.apart.length c3,.slice a4 b.ah.length c4] 84)) w1)) (fun i _ _ _=>b.apart.length-(intOf i).toNat)
 case atStart=>exact⟨0,Nat.zero_le _,rfl,Below.refl _ _⟩
 case round=>
  obtain⟨k,hk,rfl,hB⟩:=hrel;have g2:=boxed hB.o 2;have g3:=boxed hB.o 3;simp only[List.getElem?_toArray,List.getElem?_cons_succ,List.getElem?_cons_zero]at g2 g3;by_cases ao:k<b.apart.length
  .obtain⟨⟨blk,off,sp⟩,⟨xa,xb⟩,rfl,hx,x0,x1⟩:=H3.o.1.elem H3.o.2 ao;obtain rfl:sp=none:=x0.1;have HX:=hid hx;have HP:=HV.o.fW.all k _ ao hx;have e1:(decide (0<=xa)&&decide (xa<=(b.parts.length:Int)-1))=true:=by simpa using HP.1.one
   have e2:(decide (0<=xb)&&decide (xb<=(b.parts.length:Int)-1))=true:=by simpa using HP.1.two
   have e3:¬xb<xa:=by have:=HP.1.le;simp only at this;omega
   have iX:Hid ((xa,xb)∉b.apart.take k):=(by
    intro hm;obtain⟨j,hj,mL⟩:=List.getElem_of_mem hm;rw[List.getElem_take]at mL;exact HP.2 j _ (by simp at hj;omega) (List.getElem?_eq_getElem _) mL)
   have y0:=(x0.later (Kp.boxed hB.o)).2;have y1:=(x1.later (Kp.boxed hB.o)).2;simp only[<-Nat.add_assoc]at y0 y1;have sw:w.heap.size+1<=wr.heap.size:=by have:=hB.o.size;simp at this;omega
   have AV:blk<w.heap.size:=x0.lt;have mQ:(k:Int)<(b.apart.length:Int):=by omega
   have mX:(k:Int)<=(c3:Int):=by omega
   clear x0 x1 hx HP;have LY:∀o,(wr.alloc o).cell? ⟨w.heap.size,2,none⟩=some (.slice a2 b.parts.length c2):=fun o=>(di (by show w.heap.size<_;omega) o).trans g2
   have G3:∀X:aj (wr.alloc (.cells #[.int .i64 xa,.int .i64 xb] 125)),X.1.cell? ⟨w.heap.size,3,none⟩=some (.slice (some ⟨blk,off,none⟩) b.apart.length c3):=fun X=>
    X.cell ((di (by show w.heap.size<_;omega) _).trans g3)
   have T0:∀X:aj (wr.alloc (.cells #[.int .i64 xa,.int .i64 xb] 125)),X.1.cell? ⟨wr.heap.size,0,none⟩=some (.int .i64 xa):=fun X=>dJ X.2 0;have T1:∀X:aj (wr.alloc (.cells #[.int .i64 xa,.int .i64 xb] 125)),X.1.cell? ⟨wr.heap.size,1,none⟩=some (.int .i64 xb):=fun X=>dJ X.2 1
   have SA:∀X:aj (wr.alloc (.cells #[.int .i64 xa,.int .i64 xb] 125)),Calls ZP 122 #[.slice (some ⟨blk,off,none⟩) k c3,.agg #[.int .i64 xa,.int .i64 xb]] X.1 (fun e pV=>e=.returned (.bool false)/\∃Y:aj (wr.alloc (.cells #[.int .i64 xa,.int .i64 xb] 125)),pV=Y.1):=fun X=>
    (dy _ _ _ _ _ (((Kg.o.later (Kp.boxed hB.o)).later (Kp.trans (Kp.alloc wr _) X.kp (by simp))).take hk)).mono fun e w' ⟨⟨r,h1,h2⟩,h3⟩=>⟨by cases r with
      |false=>exact h1
      |true=>exact absurd h2.t iX.o,X.on h3⟩
   have hz:=hid sw;go_wp2_with(go_at_call 92;refine(cG _ _ _ _).mono ?_;(first|rw[e1]|rw[e2]);rintro e w' ⟨rfl,rfl⟩)
   refine aS (by kernel_rfl) (by kernel_rfl) ?_;repeat(go_big_quiet_step (first|(go_at_call 122;exact SA _)))
   refine wpQuiet_nil ?_;rintro _ ⟨X,rfl⟩;go_wp2
   go_round
   case rel=>exact⟨k+1,by omega,by go_num,hB.o.step hz.o X.2⟩
   case measure=>simp[intOf];omega
  .go_wp2
   go_ret;exact bT.mk (r:=0) rfl (Below.boxed hB.o)
theorem qN {b:aW} (h:jR b) (p q:Int):(min p q,max p q)∈b.apart↔Apart b.apart p q:=by
 constructor
 .intro hm;refine⟨_,hm,?_⟩;by_cases e:p<=q
  .left;simp only;omega
  .right;simp only;omega
 .rintro⟨⟨x,y⟩,hm,hx⟩;obtain⟨j,hj,mL⟩:=List.getElem_of_mem hm;have hle:=(h.all j _ hj (by rw[List.getElem?_eq_getElem hj,mL])).1.le
  have:(min p q,max p q)=(x,y):=by
   rcases hx with⟨rfl,rfl⟩|⟨rfl,rfl⟩<;>simp only at*<;>ext<;>simp only<;>omega
  rw[this];exact hm
theorem xv (w:World) (v:Value) (b:aW) (p q:Int) (hb:az w v b) (h:jR b):
 Calls ZP 100 #[v,.int .i64 p,.int .i64 q] w (dc w fun r=>Tr r (Apart b.apart p q)):=by
 obtain⟨v2,v3,v4,rfl,h2,Lf,h4⟩:=hb;obtain⟨a2,c2,⟨rfl,_,_,_,_⟩,_⟩:=h2;obtain⟨a4,c4,⟨rfl,_,_,_,_⟩,_⟩:=h4;have Yj:=Lf;obtain⟨a3,c3,⟨rfl,_,_,_,_⟩,_⟩:=Yj;have Lf:=Lf.later (Kp.alloc w (.cells #[.int .i64 b.ap,.int .i64 b.places,.slice a2 b.parts.length c2,.slice a3 b.apart.length c3,.slice a4 b.ah.length c4] 84));by_cases Yk:q<p
 .have hC:=dy _ _ _ q p Lf
  have hI:(q,p)∈b.apart↔Apart b.apart p q:=by
   have:=qN h p q;rwa [show min p q=q by omega,show max p q=p by omega]at this
  have Yl:¬p<q:=by omega
  go_enter ZF100,Tryz.ntmps100
  go_wp2_with(go_at_call 122;refine hC.mono ?_;rintro e w1 ⟨⟨r,rfl,hr⟩,cO⟩;cases r)
  .go_ret;exact dc.mk (Tr.no fun ha=>hr.f (hI.2 ha)) (Below.step (Below.refl _ _) (Nat.le_refl _) cO)
  .go_ret;exact dc.mk (Tr.yes (hI.1 hr.t)) (Below.step (Below.refl _ _) (Nat.le_refl _) cO)
 .have hI:(p,q)∈b.apart↔Apart b.apart p q:=by
   have:=qN h p q;rwa [show min p q=p by omega,show max p q=q by omega]at this
  by_cases ZU:p<q
  .have hC:=dy _ _ _ p q Lf;go_enter ZF100,Tryz.ntmps100
   go_wp2_with(go_at_call 122;refine hC.mono ?_;rintro e w1 ⟨⟨r,rfl,hr⟩,cO⟩;cases r)
   .go_ret;exact dc.mk (Tr.no fun ha=>hr.f (hI.2 ha)) (Below.step (Below.refl _ _) (Nat.le_refl _) cO)
   .go_ret;exact dc.mk (Tr.yes (hI.1 hr.t)) (Below.step (Below.refl _ _) (Nat.le_refl _) cO)
  .obtain rfl:p=q:=by omega
   have hC:=dy _ _ _ p p Lf;go_enter ZF100,Tryz.ntmps100
   go_wp2_with(go_at_call 122;refine hC.mono ?_;rintro e w1 ⟨⟨r,rfl,hr⟩,cO⟩;cases r)
   .go_ret;exact dc.mk (Tr.no fun ha=>hr.f (hI.2 ha)) (Below.step (Below.refl _ _) (Nat.le_refl _) cO)
   .go_ret;exact dc.mk (Tr.yes (hI.1 hr.t)) (Below.step (Below.refl _ _) (Nat.le_refl _) cO)
theorem FN (w:World) (g n c:Nat) (a:Option Addr) (k:Int) (hn:1<=n/\n<=5) (hg:w.cell? ⟨g,2,none⟩=some (.slice a n c)) (hk:0<=k/\k<=(n:Int)-1):
 Calls ZP 99 #[.int .i64 k,.pointer (some ⟨g,0,none⟩)] w (cF w fun r=>r=false):=by
 have nB:wrap64 ((n:Int)-1)=n-1:=by unfold wrap64;omega
 have e1:(decide (0<=k)&&decide (k<=(n:Int)-1))=true:=by simpa using hk
 clear hk;go_enter ZF99,Tryz.ntmps99
 go_wp2_with(go_at_call 92;refine(cG _ _ _ _).mono ?_;rw[e1];rintro e w' ⟨rfl,rfl⟩)
 go_ret;exact cF.mk rfl
theorem xw (w:World) (v:Value) (l:List Int) (g n c:Nat) (a:Option Addr) (h:aP w v l) (hn:1<=n/\n<=5) (hg:w.cell? ⟨g,2,none⟩=some (.slice a n c)) (hk:kJ l n l.length):
 Calls ZP 121 #[v,.func (.func 99) #[] #[.pointer (some ⟨g,0,none⟩)]] w (fun e w'=>e=.returned (.int .i64 (-1))/\w'=w):=by
 obtain⟨a1,c1,h1,h2⟩:=h;have H:Hid (cm w v l.length a1 c1/\_):=⟨h1,h2⟩
 have HG:=hid hg;obtain⟨rfl,l1,m1,n1,r1⟩:=h1;unfold maxLen at m1;clear h2 n1 r1 hg;go_enter ZF121,Tryz.ntmps121
 go_wp2
 go_loop [8,5] (fun i j=>∃k:Nat,k<=l.length/\i=.int .i64 k) (fun i _=>l.length-(intOf i).toNat)
 case atStart=>exact⟨0,Nat.zero_le _,rfl⟩
 case round=>
  obtain⟨k,qf,rfl⟩:=hrel;by_cases ao:k<l.length
  .obtain⟨⟨blk,off,sp⟩,y,rfl,hy,y0⟩:=H.o.1.elem H.o.2 ao;obtain rfl:sp=none:=y0.1;have g0:=y0.2;simp only at g0;have pT:=hk k y ao hy;have mQ:(k:Int)<(l.length:Int):=by omega
   clear y0 hy
   go_wp2_with
    (go_at_call 99
     refine(FN _ _ _ _ _ _ hn HG.o pT).mono ?_;rintro e w' ⟨r,rfl,rfl,rfl⟩)
   go_round
   case rel=>exact⟨k+1,by omega,by go_num⟩
   case measure=>simp[intOf];omega
  .go_wp2
   go_ret;exact⟨rfl,rfl⟩
theorem xx (w:World) (v:Value) (l:List Int) (g n c:Nat) (a:Option Addr) (h:aP w v l) (hn:1<=n/\n<=5) (hg:w.cell? ⟨g,2,none⟩=some (.slice a n c)) (hk:kJ l n l.length):
 Calls ZP 98 #[v,.func (.func 99) #[] #[.pointer (some ⟨g,0,none⟩)]] w (cF w fun r=>r=false):=by
 go_enter ZF98,Tryz.ntmps98
 go_wp2_with
  (go_at_call 121
   refine(xw _ _ _ _ _ _ _ h hn hg hk).mono ?_;rintro e w1 ⟨rfl,rfl⟩)
 go_ret;exact cF.mk rfl
theorem mv.Kh {w w1:World} {v0 v1 v2 v3 v4:Value} {t:Nat} (h:Below (w.heap.size+1) (w.alloc (.cells #[v0,v1,v2,v3,v4] t)) w1):mv w1 w.heap.size v0 v1 v2 v3 v4:=
 ⟨boxed h 0,boxed h 1,boxed h 2,boxed h 3,boxed h 4⟩
theorem C5 (w:World) (v vl:Value) (b:aW) (l:List Int) (hb:az w v b) (hl:aP w vl l) (hp:1<=b.parts.length/\b.parts.length<=5) (Ym:jR b) (pp:gZ b l):
 Calls ZP 66 #[v,vl] w (bT w fun s=>s=0):=by
 have HB:=hid hb;have SB:Hid (gZ b l):=pp;have HI:=hid hl;obtain⟨v2,v3,v4,rfl,⟨a2,c2,h2,f2⟩,⟨a3,c3,⟨rfl,_,_,_,_⟩,_⟩,⟨a4,c4,⟨rfl,_,_,_,_⟩,_⟩⟩:=hb;obtain⟨al,cl,zY,fl⟩:=hl;have H2:Hid (cm w v2 b.parts.length a2 c2/\_):=⟨h2,f2⟩
 have HL:Hid (cm w vl l.length al cl/\_):=⟨zY,fl⟩
 obtain⟨rfl,l2,m2,n2,r2⟩:=h2;obtain⟨rfl,ll,ml,nl,rl⟩:=zY;unfold maxLen at m2 ml;clear r2 f2 n2 rl fl nl;have bC:((l.length:Int)!=b.places)=false:=by simp[pp.len]
 have HO:=xx (w.alloc (.cells #[.int .i64 b.ap,.int .i64 b.places,.slice a2 b.parts.length c2,.slice a3 b.apart.length c3,.slice a4 b.ah.length c4] 84)) _ l w.heap.size b.parts.length c2 a2
  (HI.o.later (Kp.alloc w _)) hp (boxed (Below.refl _ _) 2) pp.range
 clear pp;go_enter ZF66,Tryz.ntmps66
 go_wp2_with
  (go_at_call 98
   refine HO.mono ?_;rintro e w' ⟨r,rfl,rfl,rfl⟩)
 clear HO;go_loopw [20,5,6] (fun i u v w1=>∃k:Nat,k<=l.length/\i=.int .i64 k/\Hid (Below (w.heap.size+1) (w.alloc (.cells #[.int .i64 b.ap,.int .i64 b.places,.slice a2 b.parts.length c2,.slice a3 b.apart.length c3,.slice a4 b.ah.length c4] 84)) w1)) (fun i _ _ _=>l.length-(intOf i).toNat)
 case atStart=>exact⟨0,Nat.zero_le _,rfl,Below.refl _ _⟩
 case round=>
  obtain⟨k,hk,rfl,hB⟩:=hrel;have gg:=mv.Kh hB.o;by_cases ao:k<l.length
  .obtain⟨⟨blk,off,sp⟩,x,rfl,hx,x0⟩:=HL.o.1.elem HL.o.2 ao;obtain rfl:sp=none:=x0.1;obtain⟨xn,rfl⟩:=Int.eq_ofNat_of_zero_le (SB.o.range k x ao hx).1;have Ye:=(SB.o.range k xn ao hx).2;have xQ:xn<b.parts.length:=by omega
   obtain⟨⟨pb,po,ps⟩,P,rfl,hP,_,_,_,_,_,vf,p5,J9⟩:=H2.o.1.elem H2.o.2 xQ;obtain rfl:ps=none:=p5.1;have hf:=J9;obtain⟨af,cf,⟨rfl,_,_,_,_⟩,_⟩:=J9;have SC:=SB.o.fit k _ ao hx
   have oW:(k:Int)∈P.fits:=by
    obtain⟨P',Ka,hm⟩:=SC.fits;simp only[Int.toNat_natCast]at Ka;rw[hP]at Ka;cases Ka;exact hm
   have SD:Hid (0<k->∀y,l[k-1]?=some y->¬Apart b.apart y xn):=SC.Lu;have G0:=fun X:aj wr=>X.cell gg.c0;have G1:=fun X:aj wr=>X.cell gg.c1;have G2:=fun X:aj wr=>X.cell gg.c2;have G3:=fun X:aj wr=>X.cell gg.c3;have G4:=fun X:aj wr=>X.cell gg.c4;have y0:=(x0.later (Kp.boxed hB.o)).2;have Y5:=fun X:aj wr=>X.cell (p5.later (Kp.boxed hB.o)).2;simp only[<-Nat.add_assoc]at y0 Y5;have mQ:(k:Int)<(l.length:Int):=by omega
   have Yf:(xn:Int)<(b.parts.length:Int):=by omega
   have hz:Hid (w.heap.size+1<=wr.heap.size):=by have:=hB.o.size;simp at this;exact(by omega:w.heap.size+1<=wr.heap.size)
   clear hx hP p5 gg SC
   have sL:∀X:aj wr,Calls ZP 84 #[.slice af P.fits.length cf,.int .i64 k] X.1 (fun e pV=>e=.returned (.bool true)/\∃Y:aj wr,pV=Y.1):=fun X=>
    (sP _ _ _ k ((hf.later (Kp.boxed hB.o)).later X.kp)).mono fun e w' ⟨r,h1,h2,h3⟩=>⟨by rw[h1,h2.2 oW],X.same h3⟩
   clear oW;by_cases pg:0<k
   .obtain⟨b',z,CW,Hv,z0⟩:=HL.o.1.elem HL.o.2 (show k-1<l.length by omega);cases CW;have Z0:=fun X:aj wr=>X.cell (z0.later (Kp.boxed hB.o)).2;simp only at Z0;have FK:=SD.o pg z Hv;have qf:wrap64 ((k:Int)-1)=((k-1:Nat):Int):=by unfold wrap64;omega
    have mX:(0:Int)<(k:Int):=by omega
    have nG:((k-1:Nat):Int)<(l.length:Int):=by omega
    clear z0 Hv x0
    have uU:∀X:aj wr,Calls ZP 100 #[.agg #[.int .i64 b.ap,.int .i64 b.places,.slice (some ⟨pb,po,none⟩) b.parts.length c2,.slice a3 b.apart.length c3,.slice a4 b.ah.length c4],.int .i64 z,.int .i64 xn] X.1 (fun e pV=>e=.returned (.bool false)/\∃Y:aj wr,pV=Y.1):=fun X=>
     (xv _ _ _ _ _ ((HB.o.later (Kp.boxed hB.o)).later X.kp) Ym).mono fun e w' ⟨⟨r,h1,h2⟩,h3⟩=>⟨by cases r with
       |false=>exact h1
       |true=>exact absurd h2.t FK,X.on h3⟩
    clear FK;go_wp2
    refine aS (by kernel_rfl) (by kernel_rfl) ?_;repeat(go_big_quiet_step (first|(go_at_call 84;exact sL _)|(go_at_call 100;exact uU _)))
    refine wpQuiet_nil ?_;rintro _ ⟨X,rfl⟩;go_wp2
    go_round
    case rel=>exact⟨k+1,by omega,by go_num,hB.o.trans (X.2.mono hz.o)⟩
    case measure=>simp[intOf];omega
   .have mX:¬(0:Int)<(k:Int):=by omega
    clear x0;go_wp2
    refine aS (by kernel_rfl) (by kernel_rfl) ?_;repeat(go_big_quiet_step (first|(go_at_call 84;exact sL _)))
    refine wpQuiet_nil ?_;rintro _ ⟨X,rfl⟩;go_wp2
    go_round
    case rel=>exact⟨k+1,by omega,by go_num,hB.o.trans (X.2.mono hz.o)⟩
    case measure=>simp[intOf];omega
  .clear gg;go_wp2
   go_ret;exact bT.mk (r:=0) rfl (Below.boxed hB.o)
theorem xy (w:World) (v:Value) (b:aW) (hb:az w v b) (hv:Valid b):Calls ZP 158 #[v] w (bT w fun s=>s=0):=by
 have HB:=hid hb;have HV:Hid (Valid b):=hv;obtain⟨v2,v3,v4,rfl,⟨a2,c2,⟨rfl,_,_,_,_⟩,_⟩,⟨a3,c3,⟨rfl,_,_,_,_⟩,_⟩,⟨a4,c4,h4,f4⟩⟩:=hb;have H4:Hid (cm w v4 b.ah.length a4 c4/\_):=⟨h4,f4⟩
 obtain⟨rfl,l4,m4,n4,r4⟩:=h4;unfold maxLen at m4;clear r4 f4 n4;have hm:=hv.many;have Pc:¬(4:Int)<(b.ah.length:Int):=by omega
 clear hv;go_enter ZF158,Tryz.ntmps158
 go_wp2
 go_loopw [15,4] (fun i u w1=>∃k:Nat,k<=b.ah.length/\i=.int .i64 k/\Hid (Below (w.heap.size+1) (w.alloc (.cells #[.int .i64 b.ap,.int .i64 b.places,.slice a2 b.parts.length c2,.slice a3 b.apart.length c3,.slice a4 b.ah.length c4] 84)) w1)) (fun i _ _=>b.ah.length-(intOf i).toNat)
 case atStart=>exact⟨0,Nat.zero_le _,rfl,Below.refl _ _⟩
 case round=>
  obtain⟨k,hk,rfl,hB⟩:=hrel;obtain⟨s0,s1,s2,s3,s4⟩:=mv.Kh hB.o;by_cases ao:k<b.ah.length
  .obtain⟨⟨blk,off,sp⟩,t,rfl,hx,⟨vf,x0,hf⟩,x1,x2⟩:=H4.o.1.elem H4.o.2 ao;obtain rfl:sp=none:=x0.1;have xW:=hf;obtain⟨af,cf,⟨rfl,_,_,_,_⟩,_⟩:=hf;have HT:=HV.o.ah k t ao hx;have HD:=HT.Kc;have HS:Hid (0<=t.lo/\t.lo<=t.hi/\t.hi<=99/\t.hi-t.lo<100):=(by have:=HT.Ke;omega:0<=t.lo/\t.lo<=t.hi/\t.hi<=99/\t.hi-t.lo<100)
   have sw:w.heap.size+1<=wr.heap.size:=by have:=hB.o.size;simp at this;omega
   have hz:=hid sw;have ZV:∀o,(wr.alloc o).cell? ⟨w.heap.size,0,none⟩=some (.int .i64 b.ap):=fun o=>(di (by show w.heap.size<_;omega) o).trans s0;have ZW:∀o,(wr.alloc o).cell? ⟨w.heap.size,1,none⟩=some (.int .i64 b.places):=fun o=>(di (by show w.heap.size<_;omega) o).trans s1;have ZX:∀o,(wr.alloc o).cell? ⟨w.heap.size,2,none⟩=some (.slice a2 b.parts.length c2):=fun o=>(di (by show w.heap.size<_;omega) o).trans s2;have ZY:∀o,(wr.alloc o).cell? ⟨w.heap.size,3,none⟩=some (.slice a3 b.apart.length c3):=fun o=>(di (by show w.heap.size<_;omega) o).trans s3;have ZZ:∀o,(wr.alloc o).cell? ⟨w.heap.size,4,none⟩=some (.slice (some ⟨blk,off,none⟩) b.ah.length c4):=fun o=>(di (by show w.heap.size<_;omega) o).trans s4;have y0:=(x0.later (Kp.boxed hB.o)).2;have y1:=(x1.later (Kp.boxed hB.o)).2;have y2:=(x2.later (Kp.boxed hB.o)).2;simp only[<-Nat.add_assoc]at y0 y1 y2;have mQ:(k:Int)<(b.ah.length:Int):=by omega
   have hC:=C5 (wr.alloc (.cells #[.slice af t.parts.length cf,.int .i64 t.lo,.int .i64 t.hi] 65)) _ _ _ _ ((HB.o.later (Kp.boxed hB.o)).later (Kp.alloc wr _)) ((xW.later (Kp.boxed hB.o)).later (Kp.alloc wr _)) HV.o.parts.many HV.o.fW HD;clear xW x0 x1 x2 hx HT HD
   go_wp2_with(first
    |(go_at_call 66
      refine hC.mono ?_;rintro e w1 ⟨⟨r,rfl,rfl⟩,cO⟩;have B1:Hid (Below (w.heap.size+1) _ w1):=hB.o.step sw cO;have p1:=dJ cO 1;have p2:=dJ cO 2;simp only[List.getElem?_toArray,List.getElem?_cons_succ,List.getElem?_cons_zero]at p1 p2)
    |(go_at_call 77;refine(oR _ _ _ _ _ (by omega) _).mono ?_;rintro e w' ⟨r,rfl,hr,rfl⟩;obtain rfl:r=true:=hr.2 HS.o))
   go_round
   case rel=>exact⟨k+1,by omega,by go_num,(Below.alloc B1.o (by have:=B1.o.size;simpa using this) _:Below _ _ _)⟩
   case measure=>simp[intOf];omega
  .go_wp2
   go_ret;exact bT.mk (r:=0) rfl (Below.boxed hB.o)
structure m8 (w:World):Prop where
 c0:w.cell? ⟨0,0,none⟩=some (.func (.func 155) #[] #[])
 c1:w.cell? ⟨0,1,none⟩=some (.func (.func 156) #[] #[])
 c2:w.cell? ⟨0,2,none⟩=some (.func (.func 157) #[] #[])
 c3:w.cell? ⟨0,3,none⟩=some (.func (.func 158) #[] #[])
theorem m8.on {w:World} (h:m8 w) (X:aj w):m8 X.1:=⟨X.cell h.c0,X.cell h.c1,X.cell h.c2,X.cell h.c3⟩
theorem m8.later {w w':World} (h:m8 w) (k:Below w.heap.size w w'):m8 w':=h.on ⟨w',k⟩
section
variable (w:World)
theorem SE:(Instr.index 136 (.agg #[.func (.func 155) #[] #[],.func (.func 156) #[] #[],.func (.func 157) #[] #[],.func (.func 158) #[] #[]]) (.int .i64 0)).run ZP w=.ok (.func (.func 155) #[] #[]) w:=by
 have u:ZP.underlying 136=some (.array 4 96):=by rw[Tz.under];exact Tryz.underlying136
 have a3:=Tryz.isAgg96;have z3:=Tryz.sizeOf96;simp[Instr.index,run_underlying u,asIntOf,part,go_sem,a3,z3]
theorem SF:(Instr.index 136 (.agg #[.func (.func 155) #[] #[],.func (.func 156) #[] #[],.func (.func 157) #[] #[],.func (.func 158) #[] #[]]) (.int .i64 1)).run ZP w=.ok (.func (.func 156) #[] #[]) w:=by
 have u:ZP.underlying 136=some (.array 4 96):=by rw[Tz.under];exact Tryz.underlying136
 have a3:=Tryz.isAgg96;have z3:=Tryz.sizeOf96;simp[Instr.index,run_underlying u,asIntOf,part,go_sem,a3,z3]
theorem SG:(Instr.index 136 (.agg #[.func (.func 155) #[] #[],.func (.func 156) #[] #[],.func (.func 157) #[] #[],.func (.func 158) #[] #[]]) (.int .i64 2)).run ZP w=.ok (.func (.func 157) #[] #[]) w:=by
 have u:ZP.underlying 136=some (.array 4 96):=by rw[Tz.under];exact Tryz.underlying136
 have a3:=Tryz.isAgg96;have z3:=Tryz.sizeOf96;simp[Instr.index,run_underlying u,asIntOf,part,go_sem,a3,z3]
theorem SH:(Instr.index 136 (.agg #[.func (.func 155) #[] #[],.func (.func 156) #[] #[],.func (.func 157) #[] #[],.func (.func 158) #[] #[]]) (.int .i64 3)).run ZP w=.ok (.func (.func 158) #[] #[]) w:=by
 have u:ZP.underlying 136=some (.array 4 96):=by rw[Tz.under];exact Tryz.underlying136
 have a3:=Tryz.isAgg96;have z3:=Tryz.sizeOf96;simp[Instr.index,run_underlying u,asIntOf,part,go_sem,a3,z3]
end
theorem oX (w:World) (v:Value) (b:aW) (hb:az w v b) (hv:Valid b) (hc:m8 w):Calls ZP 44 #[v] w (bT w fun s=>s=0):=by
 have HB:=hid hb;have HV:Hid (Valid b):=hv;obtain⟨v2,v3,v4,rfl,⟨a2,c2,⟨rfl,_,_,_,_⟩,_⟩,⟨a3,c3,⟨rfl,_,_,_,_⟩,_⟩,⟨a4,c4,⟨rfl,_,_,_,_⟩,_⟩⟩:=hb;obtain⟨k0,k1,k2,k3⟩:=hc.later ((Below.refl _ _).alloc (Nat.le_refl _) (.cells #[.int .i64 b.ap,.int .i64 b.places,.slice a2 b.parts.length c2,.slice a3 b.apart.length c3,.slice a4 b.ah.length c4] 26));clear hv hc;go_enter ZF44,Tryz.ntmps44
 go_wp2
 go_loopw [7,4,5] (fun i u v w1=>∃k:Int,Hid (k=0\/k=1\/k=2\/k=3\/k=4)/\i=.int .i64 k/\Hid (Below (w.heap.size+1) (w.alloc (.cells #[.int .i64 b.ap,.int .i64 b.places,.slice a2 b.parts.length c2,.slice a3 b.apart.length c3,.slice a4 b.ah.length c4] 26)) w1)) (fun i _ _ _=>4-(intOf i).toNat)
 case atStart=>exact⟨0,(.inl rfl:_\/_),rfl,Below.refl _ _⟩
 case round=>
  obtain⟨k,hk,rfl,hB⟩:=hrel;clear k0 k1 k2 k3;obtain⟨s0,s1,s2,s3,s4⟩:=mv.Kh hB.o;have cO:=HB.o.later (Kp.boxed hB.o);have hs:=hB.o.size;simp at hs;rcases hk.o with rfl|rfl|rfl|rfl|rfl
  .have ix:=SE wr;go_wp2_with(go_at_call 155;refine(Am _ _ _ cO HV.o).mono ?_;rintro e w1 ⟨⟨r,rfl,rfl⟩,iW⟩)
   go_round
   case rel=>exact⟨1,(.inr (.inl rfl):_\/_),rfl,hB.o.trans (iW.mono hs)⟩
   case measure=>simp[intOf]
  .have ix:=SF wr;go_wp2_with(go_at_call 156;refine(An _ _ _ cO HV.o).mono ?_;rintro e w1 ⟨⟨r,rfl,rfl⟩,iW⟩)
   go_round
   case rel=>exact⟨2,(.inr (.inr (.inl rfl)):_\/_),rfl,hB.o.trans (iW.mono hs)⟩
   case measure=>simp[intOf]
  .have ix:=SG wr;go_wp2_with(go_at_call 157;refine(Ao _ _ _ cO HV.o).mono ?_;rintro e w1 ⟨⟨r,rfl,rfl⟩,iW⟩)
   go_round
   case rel=>exact⟨3,(.inr (.inr (.inr (.inl rfl))):_\/_),rfl,hB.o.trans (iW.mono hs)⟩
   case measure=>simp[intOf]
  .have ix:=SH wr;go_wp2_with(go_at_call 158;refine(xy _ _ _ cO HV.o).mono ?_;rintro e w1 ⟨⟨r,rfl,rfl⟩,iW⟩)
   go_round
   case rel=>exact⟨4,(.inr (.inr (.inr (.inr rfl))):_\/_),rfl,hB.o.trans (iW.mono hs)⟩
   case measure=>simp[intOf]
  .go_wp2
   go_ret;exact bT.mk (r:=0) rfl (Below.boxed hB.o)
end Go.Proofs.Cz
