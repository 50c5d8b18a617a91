/- A part. Conditions: none. -/
import Derived.Test.YthmokljbbkcjdaaGreatDoorT26
import Derived.Laws.IdiomStrings
set_option linter.all false
set_option maxHeartbeats 8000000
set_option maxRecDepth 100000
namespace Go.Proofs.Cz
open Go.RowKit
theorem yl (w:World) (s:ByteArray):∃cap w',(convert 9 77 (.string s)).run ZP w=.ok (.slice (some ⟨w.heap.size,0,none⟩) s.size cap) w'/\Below w.heap.size w w'/\∀j (hj:j<s.size),w'.cell? ⟨w.heap.size,j,none⟩=some (.int .u8 s[j].toNat):=by
 have u9:ZP.underlying 9=some .string:=by rw[Tz.under];exact Tryz.underlying9
 have u77:ZP.underlying 77=some (.slice 5):=by rw[Tz.under];exact Tryz.underlying77
 have u5:ZP.underlying 5=some (.int .u8):=by rw[Tz.under];exact Tryz.underlying5
 refine⟨_,_,run_bytes_of_string w 9 77 5 s u9 u77 u5,?_,?_⟩
 .exact Below.alloc (Below.drewN (Below.refl _ _) 1) (Nat.le_refl _) _
 .intro j hj;exact(World.cell?_alloc_mark _ _ _ _ _).trans (bytesRow_at s _ j hj)
theorem vL (w:World) (s:ByteArray) (h:th s):Calls ZP 161 #[.string s] w (dq w fun r=>r=true):=by
 obtain⟨h1,h2,hN⟩:=h;have HN:=hid hN;clear hN;obtain⟨cap,w1,Pr,hb,hc⟩:=yl w s;have HB:=hid hb;have HC:=hid hc;clear hb hc;go_enter ZF161,Tryz.ntmps161
 go_wp2
 go_loop [8,3,4] (fun i u v=>∃k:Nat,k<=s.size/\i=.int .i64 k) (fun i _ _=>s.size-(intOf i).toNat)
 case atStart=>exact⟨0,Nat.zero_le _,rfl⟩
 case round=>
  obtain⟨k,hk,rfl⟩:=hrel;by_cases ap:k<s.size
  .have y0:=HC.o k ap;have lY:(k:Int)<(s.size:Int):=by omega
   rcases HN.o k ap ap with hl|⟨wn,hd⟩
   .obtain⟨a1,a2⟩:=hl;go_wp2
    go_round
    case rel=>exact⟨k+1,by omega,by go_num⟩
    case measure=>simp[intOf];omega
   .obtain⟨a1,a2⟩:=hd;have j7:(0:Int)<(k:Int):=by omega
    have a3:¬(97:Int)<=s[k].toNat:=by omega
    go_wp2
    go_round
    case rel=>exact⟨k+1,by omega,by go_num⟩
    case measure=>simp[intOf];omega
  .clear Pr;go_wp2_with(go_at_call 75;refine(DY _ _ _ _).mono ?_;rintro e w' ⟨r,rfl,hr,rfl⟩)
   go_ret;exact dq.mk (hr.2 (by omega)) HB.o
end Go.Proofs.Cz
namespace Go.Proofs.Cz
open Go.RowKit
end Go.Proofs.Cz
namespace Go.RowKit
theorem Below.step {B:Nat} {a w w1:World} {o:Obj} (h:Below B a w) (hs:B<=w.heap.size) (k:Below (w.alloc o).heap.size (w.alloc o) w1):Below B a w1:=
 (Below.alloc h hs o).trans (k.mono (by simp;omega))
end Go.RowKit
namespace Go.Proofs.Cz
open Go.RowKit
variable {a:Option Addr} {cap k n:Nat} {w:World}
theorem dU {w1:World} {cs:Array Value} {t:Nat} (h:Below (w.alloc (.cells cs t)).heap.size (w.alloc (.cells cs t)) w1) (k:Nat):w1.cell? ⟨w.heap.size,k,none⟩=cs[k]?:=boxed h.ia k
theorem bS.take {v:Value} (h:bS w v n a cap) (hk:k<=n):bS w (.slice a k cap) k a cap:=
 ⟨rfl,Nat.le_trans hk h.le,h.Jn,h.nil,h.row⟩
theorem bB.take {l:List Part} (h:bB w (.slice a n cap) l) (hk:k<=l.length):bB w (.slice a k cap) (l.take k):=by
 obtain⟨a',d9,h1,h2⟩:=h;obtain⟨rfl,-,rfl⟩:a=a'/\_/\cap=d9:=by simpa using h1.eq
 have hl:(l.take k).length=k:=by simp;omega
 refine⟨a,cap,by rw[hl];exact h1.take hk,fun b e j x hj=>h2 b e j x ?_⟩;have ns:j<k:=by have:=(List.getElem?_eq_some_iff.1 hj).1;omega
 rw[List.getElem?_take]at hj;simpa [ns]using hj
theorem cD.take {l:List (Int×Int)} (h:cD w (.slice a n cap) l) (hk:k<=l.length):cD w (.slice a k cap) (l.take k):=by
 obtain⟨a',d9,h1,h2⟩:=h;obtain⟨rfl,-,rfl⟩:a=a'/\_/\cap=d9:=by simpa using h1.eq
 have hl:(l.take k).length=k:=by simp;omega
 refine⟨a,cap,by rw[hl];exact h1.take hk,fun b e j x hj=>h2 b e j x ?_⟩;have ns:j<k:=by have:=(List.getElem?_eq_some_iff.1 hj).1;omega
 rw[List.getElem?_take]at hj;simpa [ns]using hj
theorem tw (w:World) (g:Nat) (n1 nm:ByteArray) (a b c d:Int) (vf:Value) (af:Option Addr) (lf cf:Nat) (LO:vf=.slice af lf cf) (hg:w.cell? ⟨g,0,none⟩=some (.string nm)) (bE:n1≠nm):
 Calls ZP 163 #[.agg #[.string n1,.int .i64 a,.int .i64 b,.int .i64 c,.int .i64 d,vf],.pointer (some ⟨g,0,none⟩)] w (dq w fun r=>r=false):=by
 subst LO;have pT:=(Kp.alloc w (.cells #[.string n1,.int .i64 a,.int .i64 b,.int .i64 c,.int .i64 d,.slice af lf cf] 34))
 have Jm:(w.alloc (.cells #[.string n1,.int .i64 a,.int .i64 b,.int .i64 c,.int .i64 d,.slice af lf cf] 34)).cell? ⟨g,0,none⟩=some (.string nm):=
  (an.cell ⟨_,(Below.refl _ _).alloc (Nat.le_refl _) _⟩ hg:_)
 have hd:(n1.toList==nm.toList)=false:=by
  cases hh:(n1.toList==nm.toList)with
  |false=>rfl
  |true=>exact absurd (zM hh) bE
 clear pT;go_enter ZF163,Tryz.ntmps163
 go_wp2
 go_ret;exact dq.mk rfl ((Below.refl _ _).alloc (Nat.le_refl _) _)
theorem vM (w:World) (v:Value) (l:List Part) (g:Nat) (nm:ByteArray) (h:bB w v l) (hg:w.cell? ⟨g,0,none⟩=some (.string nm)) (bE:∀x∈l,x.name≠nm):
 Calls ZP 164 #[v,.func (.func 163) #[] #[.pointer (some ⟨g,0,none⟩)]] w (bY w fun r=>r=-1):=by
 obtain⟨a,c,h1,h2⟩:=h;have H:Hid (bS w v l.length a c/\_):=⟨h1,h2⟩
 have HG:=hid hg;obtain⟨rfl,l1,m1,n1,r1⟩:=h1;unfold maxLen at m1;clear h2 n1 r1 hg;go_enter ZF164,Tryz.ntmps164
 go_wp2
 go_loopw [8,5] (fun i j w1=>∃k:Nat,k<=l.length/\i=.int .i64 k/\Hid (Below w.heap.size w w1)) (fun i _ _=>l.length-(intOf i).toNat)
 case atStart=>exact⟨0,Nat.zero_le _,rfl,Below.refl _ _⟩
 case round=>
  obtain⟨k,hk,rfl,hB⟩:=hrel;by_cases ap:k<l.length
  .obtain⟨⟨blk,off,sp⟩,x,rfl,hx,x0,x1,x2,x3,x4,vf,x5,x6⟩:=H.o.1.elem H.o.2 ap;obtain rfl:sp=none:=x0.1;obtain⟨af,cf,hf,_⟩:=x6;obtain⟨rfl,lf,mf,_,_⟩:=hf;have y0:=(x0.later (Kp.of hB.o)).2;have y1:=(x1.later (Kp.of hB.o)).2;have y2:=(x2.later (Kp.of hB.o)).2;have y3:=(x3.later (Kp.of hB.o)).2;have y4:=(x4.later (Kp.of hB.o)).2;have y5:=(x5.later (Kp.of hB.o)).2;simp only[<-Nat.add_assoc]at y0 y1 y2 y3 y4 y5;have lY:(k:Int)<(l.length:Int):=by omega
   have hgr:=an.cell ⟨wr,hB.o⟩ HG.o;have yS:=bE x (List.mem_of_getElem? hx);clear x0 x1 x2 x3 x4 x5 hx
   go_wp2_with
    (go_at_call 163
     refine(tw _ _ _ _ _ _ _ _ _ _ _ _ rfl hgr yS).mono ?_;rintro e w1 ⟨⟨r,rfl,rfl⟩,cW⟩)
   go_round
   case rel=>exact⟨k+1,by omega,by go_num,hB.o.trans (cW.mono hB.o.size)⟩
   case measure=>simp[intOf];omega
  .go_wp2
   go_ret;exact bY.mk (r:=-1) rfl hB.o
theorem vN (w:World) (v:Value) (l:List Part) (g:Nat) (nm:ByteArray) (h:bB w v l) (hg:w.cell? ⟨g,0,none⟩=some (.string nm)) (bE:∀x∈l,x.name≠nm):
 Calls ZP 162 #[v,.func (.func 163) #[] #[.pointer (some ⟨g,0,none⟩)]] w (dq w fun r=>r=false):=by
 go_enter ZF162,Tryz.ntmps162
 go_wp2_with
  (go_at_call 164
   refine(vM _ _ _ _ _ h hg bE).mono ?_;rintro e w1 ⟨⟨r,rfl,rfl⟩,cW⟩)
 go_ret;exact dq.mk rfl cW
end Go.Proofs.Cz
namespace Go.Proofs.Cz
open Go.RowKit
theorem cO.eq {w:World} {P:Bool->Prop} {v:Value} {r:Bool} (h:P r) (e:v=.bool r):cO w P (.returned v) w:=by subst e;exact .mk h
theorem Bn (w:World) (v:Value) (l:List Int) (x:Int) (h:ao w v l):Calls ZP 95 #[v,.int .i64 x] w (fun e w'=>∃r,e=.returned (.int .i64 r)/\(0<=r↔x∈l)/\w'=w):=by
 obtain⟨a,c,h1,h2⟩:=h;have H:Hid (bS w v l.length a c/\_):=⟨h1,h2⟩
 obtain⟨rfl,l1,m1,n1,r1⟩:=h1;unfold maxLen at m1;clear h2 n1 r1;go_enter ZF95,Tryz.ntmps95
 go_wp2
 go_loop [8,5] (fun i j=>∃k:Nat,k<=l.length/\Hid (gG l x k)/\i=.int .i64 k) (fun i _=>l.length-(intOf i).toNat)
 case atStart=>exact⟨0,Nat.zero_le _,gG.zero l x,rfl⟩
 case round=>
  obtain⟨k,hk,hN,rfl⟩:=hrel;by_cases ap:k<l.length
  .obtain⟨⟨blk,off,sp⟩,y,rfl,hy,y0⟩:=H.o.1.elem H.o.2 ap;obtain rfl:sp=none:=y0.1;have g0:=y0.2;simp only at g0;have HY:=hid hy;have lY:(k:Int)<(l.length:Int):=by omega
   clear y0 hy;by_cases e:x=y
   .subst e;go_wp2
    go_ret;exact⟨k,rfl,⟨fun _=>List.mem_of_getElem? HY.o,fun _=>by omega⟩,rfl⟩
   .have e':Hid (y≠x):=fun h=>e h.symm;go_wp2
    go_round
    case rel=>exact⟨k+1,by omega,hN.o.succ HY.o e'.out,by go_num⟩
    case measure=>simp[intOf];omega
  .have HN:Hid (x∉l):=(by have e:k=l.length:=by omega
                          subst e;exact hN.o.all)
   go_wp2
   go_ret;exact⟨-1,rfl,⟨fun h=>by omega,fun h=>absurd h HN.o⟩,rfl⟩
theorem tx (w:World) (v:Value) (l:List Int) (x:Int) (h:ao w v l):Calls ZP 54 #[v,.int .i64 x] w (cO w fun r=>Tr r (x∈l)):=by
 go_enter ZF54,Tryz.ntmps54
 go_wp2_with
  (go_at_call 95
   refine(Bn _ _ _ x h).mono ?_;rintro e w1 ⟨r,rfl,hr,rfl⟩;by_cases h0:0<=r)
 .have hx:Hid (x∈l):=hr.1 h0;go_ret;exact cO.eq (r:=true) (Tr.yes hx.o) (by simp[hx.o])
 .have hx:Hid (¬x∈l):=fun h=>by have:=hr.2 h;omega
  go_ret;exact cO.eq (r:=false) (Tr.no hx.o) (by simp[hx.o])
theorem qo (w:World) (v:Value) (l:List (Int×Int)) (p q:Int) (h:cD w v l):
 Calls ZP 133 #[v,.agg #[.int .i64 p,.int .i64 q]] w (bY w fun r=>0<=r↔(p,q)∈l):=by
 obtain⟨a,c,h1,h2⟩:=h;have H:Hid (bS w v l.length a c/\_):=⟨h1,h2⟩
 obtain⟨rfl,l1,m1,n1,r1⟩:=h1;unfold maxLen at m1;clear h2 n1 r1;go_enter ZF133,Tryz.ntmps133
 go_wp2
 go_loopw [8,5] (fun i j w1=>∃k:Nat,k<=l.length/\Hid (gH l (p,q) k)/\i=.int .i64 k/\∃n,w1=(w.alloc (.cells #[.int .i64 p,.int .i64 q] 119)).drewN n) (fun i _ _=>l.length-(intOf i).toNat)
 case atStart=>exact⟨0,Nat.zero_le _,gH.zero l _,rfl,0,rfl⟩
 case round=>
  obtain⟨k,hk,hN,rfl,n0,rfl⟩:=hrel;by_cases ap:k<l.length
  .obtain⟨⟨blk,off,sp⟩,⟨ya,yb⟩,rfl,hy,y0,y1⟩:=H.o.1.elem H.o.2 ap;obtain rfl:sp=none:=y0.1;have g0:=(y0.later (Kp.alloc w (.cells #[.int .i64 p,.int .i64 q] 119))).2;have g1:=(y1.later (Kp.alloc w (.cells #[.int .i64 p,.int .i64 q] 119))).2;simp only[<-Nat.add_assoc]at g0 g1;have HY:=hid hy;have lY:(k:Int)<(l.length:Int):=by omega
   clear y0 y1 hy;by_cases e1:p=ya
   .subst e1;by_cases e2:q=yb
    .subst e2;go_wp2
     go_quiet (fail)
     go_wp2
     go_ret;exact bY.mk (r:=k) ⟨fun _=>List.mem_of_getElem? HY.o,fun _=>by omega⟩ (Below.drewN (Below.drewN (Below.alloc (Below.refl _ _) (Nat.le_refl _) _) _) _)
    .have bE:Hid ((p,yb)≠(p,q)):=(fun h=>e2 (by cases h;rfl):(p,yb)≠(p,q))
     go_wp2
     go_quiet (fail)
     go_wp2
     go_round
     case rel=>exact⟨k+1,by omega,hN.o.succ HY.o bE.o,by go_num,_,rfl⟩
     case measure=>simp[intOf];omega
   .have bE:Hid ((ya,yb)≠(p,q)):=(fun h=>e1 (by cases h;rfl):(ya,yb)≠(p,q))
    go_wp2
    go_quiet (fail)
    go_wp2
    go_round
    case rel=>exact⟨k+1,by omega,hN.o.succ HY.o bE.o,by go_num,_,rfl⟩
    case measure=>simp[intOf];omega
  .have HN:Hid ((p,q)∉l):=(by
    have e:k=l.length:=by omega
    subst e;intro hm;obtain⟨j,hj,ns⟩:=List.getElem_of_mem hm;exact hN.o j _ hj (List.getElem?_eq_getElem hj) ns)
   go_wp2
   go_ret;exact bY.mk (r:=-1) ⟨fun h=>by omega,fun h=>absurd h HN.o⟩ (Below.drewN (Below.alloc (Below.refl _ _) (Nat.le_refl _) _) _)
theorem dL (w:World) (v:Value) (l:List (Int×Int)) (p q:Int) (h:cD w v l):
 Calls ZP 116 #[v,.agg #[.int .i64 p,.int .i64 q]] w (dq w fun r=>Tr r ((p,q)∈l)):=by
 go_enter ZF116,Tryz.ntmps116
 have h':=h.later (Kp.alloc w (.cells #[.int .i64 p,.int .i64 q] 119))
 go_wp2_with
  (go_at_call 133
   refine(qo _ _ _ p q h').mono ?_;rintro e w1 ⟨⟨r,rfl,hr⟩,cW⟩;by_cases h0:0<=r)
 .have hx:Hid ((p,q)∈l):=hr.1 h0;go_ret;exact dq.eq (r:=true) (Tr.yes hx.o) (Below.step (Below.refl _ _) (Nat.le_refl _) cW) (by simp[hx.o])
 .have hx:Hid (¬(p,q)∈l):=fun h=>by have:=hr.2 h;omega
  go_ret;exact dq.eq (r:=false) (Tr.no hx.o) (Below.step (Below.refl _ _) (Nat.le_refl _) cW) (by simp[hx.o])
theorem Bo (w:World) (v:Value) (b:aS) (hb:ar w v b) (h:Valid b):Calls ZP 157 #[v] w (bY w fun r=>r=0):=by
 obtain⟨v2,v3,v4,rfl,⟨a2,c2,⟨rfl,_,_,_,_⟩,_⟩,⟨a3,c3,⟨rfl,_,_,_,_⟩,_⟩,⟨a4,c4,⟨rfl,_,_,_,_⟩,_⟩⟩:=hb;obtain⟨h1,h2,_,_,_,_⟩:=h;have d1:(decide (1<=b.am)&&decide (b.am<=99))=true:=by simpa using h1
 have d2:(decide (1<=b.places)&&decide (b.places<=4))=true:=by simpa using h2
 clear h1 h2;go_enter ZF157,Tryz.ntmps157
 go_wp2_with(go_at_call 75;refine(cP _ _ _ _).mono ?_;(first|rw[d1]|rw[d2]);rintro e w' ⟨rfl,rfl⟩)
 go_ret;exact bY.mk (r:=0) rfl ((Below.refl _ _).alloc (Nat.le_refl _) _)
theorem Bp (w:World) (v:Value) (b:aS) (hb:ar w v b) (h:Valid b):Calls ZP 158 #[v] w (bY w fun r=>r=0):=by
 obtain⟨v2,v3,v4,rfl,D0,h3,h4⟩:=hb;have D5:=hid D0;obtain⟨a2,c2,h2,f2⟩:=D0;have H2:Hid (bS w v2 b.parts.length a2 c2/\_):=⟨h2,f2⟩
 have HV:Hid (Valid b):=h;obtain⟨rfl,l2,m2,n2,r2⟩:=h2;obtain⟨a3,c3,⟨rfl,_,_,_,_⟩,_⟩:=h3;obtain⟨a4,c4,⟨rfl,_,_,_,_⟩,_⟩:=h4;unfold maxLen at m2;clear r2 f2 n2;have hm:=h.parts.many;have hpl:=h.places;have d1:(decide ((1:Int)<=(b.parts.length:Int))&&decide ((b.parts.length:Int)<=5))=true:=by simp;omega
 clear h;go_enter ZF158,Tryz.ntmps158
 go_wp2_with(go_at_call 75;refine(cP _ _ _ _).mono ?_;rw[d1];rintro e w' ⟨rfl,rfl⟩)
 go_loopw [17,3,4] (fun i u v w1=>∃k:Nat,k<=b.parts.length/\i=.int .i64 k/\Hid (Below (w.heap.size+1) (w.alloc (.cells #[.int .i64 b.am,.int .i64 b.places,.slice a2 b.parts.length c2,.slice a3 b.apart.length c3,.slice a4 b.aa.length c4] 79)) w1)) (fun i _ _ _=>b.parts.length-(intOf i).toNat)
 case atStart=>exact⟨0,Nat.zero_le _,rfl,Below.refl _ _⟩
 case round=>
  obtain⟨k,hk,rfl,hB⟩:=hrel;have g1:=boxed hB.o 1;have g2:=boxed hB.o 2;simp only[List.getElem?_toArray,List.getElem?_cons_succ,List.getElem?_cons_zero]at g1 g2;by_cases ap:k<b.parts.length
  .obtain⟨⟨blk,off,sp⟩,x,rfl,hx,x0,x1,x2,x3,x4,vf,x5,x6⟩:=H2.o.1.elem H2.o.2 ap;obtain rfl:sp=none:=x0.1;have x7:=x6.later (Kp.boxed hB.o);obtain⟨af,cf,hf,_⟩:=x6;obtain⟨rfl,lf,mf,_,_⟩:=hf;unfold maxLen at mf;have HX:Hid (b.parts[k]?=some x/\ao wr (.slice af x.fits.length cf) x.fits):=⟨hx,x7⟩
   have HP:Hid (ti b.places x/\∀i y,i<k->b.parts[i]?=some y->y.name≠x.name):=HV.o.parts.all k x ap hx;have BP:=HP.o.1.name;have y0:=(x0.later (Kp.boxed hB.o)).2;have y1:=(x1.later (Kp.boxed hB.o)).2;have y2:=(x2.later (Kp.boxed hB.o)).2;have y3:=(x3.later (Kp.boxed hB.o)).2;have y4:=(x4.later (Kp.boxed hB.o)).2;have y5:=(x5.later (Kp.boxed hB.o)).2;simp only[<-Nat.add_assoc]at y0 y1 y2 y3 y4 y5;have mS:w.heap.size+1<=wr.heap.size:=by have:=hB.o.size;simp at this;omega
   have rc:blk<w.heap.size:=x0.lt;have lY:(k:Int)<(b.parts.length:Int):=by omega
   clear x0 x1 x2 x3 x4 x5 x7 hx;have Jr:=HP.o.1.cost;have D6:=HP.o.1.cm;have Ps:=HP.o.1.time;have Pu:=HP.o.1.wide;have e1:(decide (0<=x.cost)&&decide (x.cost<=99))=true:=by simpa using Jr
   have e2:(decide (0<=x.cm)&&decide (x.cm<=3))=true:=by simpa using D6
   have Js:x.lo>=0/\x.lo<=x.hi/\x.hi<=20/\x.hi-x.lo<4:=by omega
   have HS:=hid Js;clear Jr D6 Ps Pu Js
   go_wp2_with(first
    |(go_at_call 161
      refine(vL _ _ BP).mono ?_;rintro e w1 ⟨⟨r,rfl,rfl⟩,cW⟩;have B1:Hid (Below (w.heap.size+1) _ w1):=hB.o.step mS cW;have p0:=dU cW 0;have p1:=dU cW 1;have p2:=dU cW 2;have p3:=dU cW 3;have p4:=dU cW 4;have p5:=dU cW 5;have q1:=boxed B1.o 1;have q2:=boxed B1.o 2;simp only[List.getElem?_toArray,List.getElem?_cons_succ,List.getElem?_cons_zero]at p0 p1 p2 p3 p4 p5 q1 q2)
    |(go_at_call 162
      refine(vN _ _ (b.parts.take k) _ x.name ((D5.o.later (Kp.boxed B1.o)).take hk) p0 (fun y hy=>?_)).mono ?_
      .obtain⟨j,hj,rfl⟩:=List.getElem_of_mem hy;rw[List.getElem_take];have ns:j<k:=by simp at hj;omega
       exact HP.o.2 j _ ns (List.getElem?_eq_getElem _)
      rintro e w2 ⟨⟨r,rfl,rfl⟩,iN⟩;have B2:Hid (Below (w.heap.size+1) _ w2):=B1.o.trans (iN.mono (by have:=B1.o.size;simpa using this));have s1:=an.cell ⟨w2,iN⟩ p1;have s2:=an.cell ⟨w2,iN⟩ p2;have s3:=an.cell ⟨w2,iN⟩ p3;have s4:=an.cell ⟨w2,iN⟩ p4;have s5:=an.cell ⟨w2,iN⟩ p5;have t1:=an.cell ⟨w2,iN⟩ q1;simp only at s1 s2 s3 s4 s5 t1;have s5a:∀o,(w2.alloc o).cell? ⟨wr.heap.size,5,none⟩=_:=fun o=>an.cell ⟨w2.alloc o,(Below.refl _ _).alloc (Nat.le_refl _) o⟩ s5;have t1a:∀o,(w2.alloc o).cell? ⟨w.heap.size,1,none⟩=_:=fun o=>an.cell ⟨w2.alloc o,(Below.refl _ _).alloc (Nat.le_refl _) o⟩ t1;have HF:Hid (∀o,ao (w2.alloc o) (.slice af x.fits.length cf) x.fits):=fun o=>(HX.o.2.later (Kp.trans (Kp.alloc wr _) (Kp.of cW) (by simp))).later (Kp.trans (Kp.of iN) (Kp.alloc w2 o) iN.size);clear p0 p1 p2 p3 p4 p5 q1 q2)
    |(go_at_call 75;refine(cP _ _ _ _).mono ?_;(first|rw[e1]|rw[e2]);rintro e w' ⟨rfl,rfl⟩)
    |(go_at_call 70;refine(kZ _ _ _ _ _ (by omega) _).mono ?_;rintro e w' ⟨r,rfl,hr,rfl⟩;obtain rfl:r=true:=hr.2 HS.o))
   have Pp:wrap64 (b.places-1)=b.places-1:=by unfold wrap64;omega
   go_loop [51,5,6] (fun i u v=>∃m:Nat,m<=x.fits.length/\i=.int .i64 m) (fun i _ _=>x.fits.length-(intOf i).toNat)
   case atStart=>exact⟨0,Nat.zero_le _,rfl⟩
   case round=>
    obtain⟨m,Xd,rfl⟩:=hrel;by_cases gQ:m<x.fits.length
    .obtain⟨a',d9,wP,Rh⟩:=HF.o (.cells #[.int .i64 x.lo,.int .i64 x.hi] 31);have he:=wP.eq;simp only[Value.slice.injEq]at he;obtain⟨rfl,-,rfl⟩:=he;obtain⟨⟨fb,fo,fs⟩,y,rfl,hy,y0⟩:=wP.elem Rh gQ;obtain rfl:fs=none:=y0.1;have z0:=y0.2;simp only at z0;have F5:=HP.o.1.GT m y gQ hy;have e3:(decide (0<=y)&&decide (y<=b.places-1))=true:=by simpa using And.intro F5.1 F5.2.1
     have Po:(m:Int)<(x.fits.length:Int):=by omega
     obtain⟨-,-,UI⟩:=F5;by_cases Fk:0<m
     .obtain⟨b',z,Bm,Jp,z1⟩:=wP.elem Rh (show m-1<x.fits.length by omega);cases Bm;have z1:=z1.2;simp only at z1;have hzy:¬y<=z:=by have:=UI z Fk Jp;omega
      have qz:wrap64 ((m:Int)-1)=((m-1:Nat):Int):=by unfold wrap64;omega
      have j7:(0:Int)<(m:Int):=by omega
      have ol:((m-1:Nat):Int)<(x.fits.length:Int):=by omega
      clear Jp UI wP Rh y0 hy;go_wp2_with(go_at_call 75;refine(cP _ _ _ _).mono ?_;rw[e3];rintro e w' ⟨rfl,rfl⟩)
      go_round
      case rel=>exact⟨m+1,by omega,by go_num⟩
      case measure=>simp[intOf];omega
     .have j7:¬(0:Int)<(m:Int):=by omega
      clear UI wP Rh y0 hy;go_wp2_with(go_at_call 75;refine(cP _ _ _ _).mono ?_;rw[e3];rintro e w' ⟨rfl,rfl⟩)
      go_round
      case rel=>exact⟨m+1,by omega,by go_num⟩
      case measure=>simp[intOf];omega
    .go_wp2
     go_round
     case rel=>exact⟨k+1,by omega,by go_num,(Below.alloc B2.o (by have:=B2.o.size;simpa using this) _:Below _ _ _)⟩
     case measure=>simp[intOf];omega
  .go_wp2
   go_ret;exact bY.mk (r:=0) rfl (Below.boxed hB.o)
theorem Bq (w:World) (v:Value) (b:aS) (hb:ar w v b) (h:Valid b):Calls ZP 159 #[v] w (bY w fun r=>r=0):=by
 obtain⟨v2,v3,v4,rfl,h2,D0,h4⟩:=hb;have D5:=hid D0;obtain⟨a3,c3,h3,f3⟩:=D0;have H3:Hid (bS w v3 b.apart.length a3 c3/\_):=⟨h3,f3⟩
 have HV:Hid (Valid b):=h;obtain⟨rfl,l3,m3,n3,r3⟩:=h3;obtain⟨a2,c2,⟨rfl,_,m2,_,_⟩,_⟩:=h2;obtain⟨a4,c4,⟨rfl,_,_,_,_⟩,_⟩:=h4;unfold maxLen at m3;clear r3 f3 n3 m2;have hm:=h.fP.many;have MQ:=h.parts.many;have pR:wrap64 ((b.parts.length:Int)-1)=b.parts.length-1:=by unfold wrap64;omega
 have UJ:¬(5:Int)<(b.apart.length:Int):=by omega
 clear h;go_enter ZF159,Tryz.ntmps159
 go_wp2
 go_loopw [14,3,4] (fun i u v w1=>∃k:Nat,k<=b.apart.length/\i=.int .i64 k/\Hid (Below (w.heap.size+1) (w.alloc (.cells #[.int .i64 b.am,.int .i64 b.places,.slice a2 b.parts.length c2,.slice a3 b.apart.length c3,.slice a4 b.aa.length c4] 79)) w1)) (fun i _ _ _=>b.apart.length-(intOf i).toNat)
 case atStart=>exact⟨0,Nat.zero_le _,rfl,Below.refl _ _⟩
 case round=>
  obtain⟨k,hk,rfl,hB⟩:=hrel;have g2:=boxed hB.o 2;have g3:=boxed hB.o 3;simp only[List.getElem?_toArray,List.getElem?_cons_succ,List.getElem?_cons_zero]at g2 g3;by_cases ap:k<b.apart.length
  .obtain⟨⟨blk,off,sp⟩,⟨xa,xb⟩,rfl,hx,x0,x1⟩:=H3.o.1.elem H3.o.2 ap;obtain rfl:sp=none:=x0.1;have HX:=hid hx;have HP:=HV.o.fP.all k _ ap hx;have e1:(decide (0<=xa)&&decide (xa<=(b.parts.length:Int)-1))=true:=by simpa using HP.1.one
   have e2:(decide (0<=xb)&&decide (xb<=(b.parts.length:Int)-1))=true:=by simpa using HP.1.two
   have e3:¬xb<xa:=by have:=HP.1.le;simp only at this;omega
   have i9:Hid ((xa,xb)∉b.apart.take k):=(by
    intro hm;obtain⟨j,hj,ns⟩:=List.getElem_of_mem hm;rw[List.getElem_take]at ns;exact HP.2 j _ (by simp at hj;omega) (List.getElem?_eq_getElem _) ns)
   have y0:=(x0.later (Kp.boxed hB.o)).2;have y1:=(x1.later (Kp.boxed hB.o)).2;simp only[<-Nat.add_assoc]at y0 y1;have mS:w.heap.size+1<=wr.heap.size:=by have:=hB.o.size;simp at this;omega
   have rc:blk<w.heap.size:=x0.lt;have lY:(k:Int)<(b.apart.length:Int):=by omega
   have j7:(k:Int)<=(c3:Int):=by omega
   clear x0 x1 hx HP;have NG:∀o,(wr.alloc o).cell? ⟨w.heap.size,2,none⟩=some (.slice a2 b.parts.length c2):=fun o=>(dK (by show w.heap.size<_;omega) o).trans g2
   have G3:∀X:an (wr.alloc (.cells #[.int .i64 xa,.int .i64 xb] 119)),X.1.cell? ⟨w.heap.size,3,none⟩=some (.slice (some ⟨blk,off,none⟩) b.apart.length c3):=fun X=>
    X.cell ((dK (by show w.heap.size<_;omega) _).trans g3)
   have T0:∀X:an (wr.alloc (.cells #[.int .i64 xa,.int .i64 xb] 119)),X.1.cell? ⟨wr.heap.size,0,none⟩=some (.int .i64 xa):=fun X=>dU X.2 0;have T1:∀X:an (wr.alloc (.cells #[.int .i64 xa,.int .i64 xb] 119)),X.1.cell? ⟨wr.heap.size,1,none⟩=some (.int .i64 xb):=fun X=>dU X.2 1
   have UK:∀X:an (wr.alloc (.cells #[.int .i64 xa,.int .i64 xb] 119)),Calls ZP 116 #[.slice (some ⟨blk,off,none⟩) k c3,.agg #[.int .i64 xa,.int .i64 xb]] X.1 (fun e qn=>e=.returned (.bool false)/\∃Y:an (wr.alloc (.cells #[.int .i64 xa,.int .i64 xb] 119)),qn=Y.1):=fun X=>
    (dL _ _ _ _ _ (((D5.o.later (Kp.boxed hB.o)).later (Kp.trans (Kp.alloc wr _) X.kp (by simp))).take hk)).mono fun e w' ⟨⟨r,h1,h2⟩,h3⟩=>⟨by cases r with
      |false=>exact h1
      |true=>exact absurd h2.t i9.o,X.on h3⟩
   have hz:=hid mS;go_wp2_with(go_at_call 75;refine(cP _ _ _ _).mono ?_;(first|rw[e1]|rw[e2]);rintro e w' ⟨rfl,rfl⟩)
   refine aV (by kernel_rfl) (by kernel_rfl) ?_;repeat(go_big_quiet_step (first|(go_at_call 116;exact UK _)))
   refine wpQuiet_nil ?_;rintro _ ⟨X,rfl⟩;go_wp2
   go_round
   case rel=>exact⟨k+1,by omega,by go_num,hB.o.step hz.o X.2⟩
   case measure=>simp[intOf];omega
  .go_wp2
   go_ret;exact bY.mk (r:=0) rfl (Below.boxed hB.o)
theorem rk {b:aS} (h:j9 b) (p q:Int):(min p q,max p q)∈b.apart↔Apart b.apart p q:=by
 constructor
 .intro hm;refine⟨_,hm,?_⟩;by_cases e:p<=q
  .left;simp only;omega
  .right;simp only;omega
 .rintro⟨⟨x,y⟩,hm,hx⟩;obtain⟨j,hj,ns⟩:=List.getElem_of_mem hm;have hle:=(h.all j _ hj (by rw[List.getElem?_eq_getElem hj,ns])).1.le
  have:(min p q,max p q)=(x,y):=by
   rcases hx with⟨rfl,rfl⟩|⟨rfl,rfl⟩<;>simp only at*<;>ext<;>simp only<;>omega
  rw[this];exact hm
theorem ym (w:World) (v:Value) (b:aS) (p q:Int) (hb:ar w v b) (h:j9 b):
 Calls ZP 101 #[v,.int .i64 p,.int .i64 q] w (dq w fun r=>Tr r (Apart b.apart p q)):=by
 obtain⟨v2,v3,v4,rfl,h2,MS,h4⟩:=hb;obtain⟨a2,c2,⟨rfl,_,_,_,_⟩,_⟩:=h2;obtain⟨a4,c4,⟨rfl,_,_,_,_⟩,_⟩:=h4;have hP0:=MS;obtain⟨a3,c3,⟨rfl,_,_,_,_⟩,_⟩:=hP0;have MS:=MS.later (Kp.alloc w (.cells #[.int .i64 b.am,.int .i64 b.places,.slice a2 b.parts.length c2,.slice a3 b.apart.length c3,.slice a4 b.aa.length c4] 79));by_cases hqp:q<p
 .have hC:=dL _ _ _ q p MS
  have hI:(q,p)∈b.apart↔Apart b.apart p q:=by
   have:=rk h p q;rwa [show min p q=q by omega,show max p q=p by omega]at this
  have zaU:¬p<q:=by omega
  go_enter ZF101,Tryz.ntmps101
  go_wp2_with(go_at_call 116;refine hC.mono ?_;rintro e w1 ⟨⟨r,rfl,hr⟩,cW⟩;cases r)
  .go_ret;exact dq.mk (Tr.no fun ha=>hr.f (hI.2 ha)) (Below.step (Below.refl _ _) (Nat.le_refl _) cW)
  .go_ret;exact dq.mk (Tr.yes (hI.1 hr.t)) (Below.step (Below.refl _ _) (Nat.le_refl _) cW)
 .have hI:(p,q)∈b.apart↔Apart b.apart p q:=by
   have:=rk h p q;rwa [show min p q=p by omega,show max p q=q by omega]at this
  by_cases hpq:p<q
  .have hC:=dL _ _ _ p q MS;go_enter ZF101,Tryz.ntmps101
   go_wp2_with(go_at_call 116;refine hC.mono ?_;rintro e w1 ⟨⟨r,rfl,hr⟩,cW⟩;cases r)
   .go_ret;exact dq.mk (Tr.no fun ha=>hr.f (hI.2 ha)) (Below.step (Below.refl _ _) (Nat.le_refl _) cW)
   .go_ret;exact dq.mk (Tr.yes (hI.1 hr.t)) (Below.step (Below.refl _ _) (Nat.le_refl _) cW)
  .obtain rfl:p=q:=by omega
   have hC:=dL _ _ _ p p MS;go_enter ZF101,Tryz.ntmps101
   go_wp2_with(go_at_call 116;refine hC.mono ?_;rintro e w1 ⟨⟨r,rfl,hr⟩,cW⟩;cases r)
   .go_ret;exact dq.mk (Tr.no fun ha=>hr.f (hI.2 ha)) (Below.step (Below.refl _ _) (Nat.le_refl _) cW)
   .go_ret;exact dq.mk (Tr.yes (hI.1 hr.t)) (Below.step (Below.refl _ _) (Nat.le_refl _) cW)
theorem GZ (w:World) (g n c:Nat) (a:Option Addr) (k:Int) (hn:1<=n/\n<=5) (hg:w.cell? ⟨g,2,none⟩=some (.slice a n c)) (hk:0<=k/\k<=(n:Int)-1):
 Calls ZP 100 #[.int .i64 k,.pointer (some ⟨g,0,none⟩)] w (cO w fun r=>r=false):=by
 have pR:wrap64 ((n:Int)-1)=n-1:=by unfold wrap64;omega
 have e1:(decide (0<=k)&&decide (k<=(n:Int)-1))=true:=by simpa using hk
 clear hk;go_enter ZF100,Tryz.ntmps100
 go_wp2_with(go_at_call 75;refine(cP _ _ _ _).mono ?_;rw[e1];rintro e w' ⟨rfl,rfl⟩)
 go_ret;exact cO.mk rfl
theorem yn (w:World) (v:Value) (l:List Int) (g n c:Nat) (a:Option Addr) (h:ao w v l) (hn:1<=n/\n<=5) (hg:w.cell? ⟨g,2,none⟩=some (.slice a n c)) (hk:lh l n l.length):
 Calls ZP 115 #[v,.func (.func 100) #[] #[.pointer (some ⟨g,0,none⟩)]] w (fun e w'=>e=.returned (.int .i64 (-1))/\w'=w):=by
 obtain⟨a1,c1,h1,h2⟩:=h;have H:Hid (bS w v l.length a1 c1/\_):=⟨h1,h2⟩
 have HG:=hid hg;obtain⟨rfl,l1,m1,n1,r1⟩:=h1;unfold maxLen at m1;clear h2 n1 r1 hg;go_enter ZF115,Tryz.ntmps115
 go_wp2
 go_loop [8,5] (fun i j=>∃k:Nat,k<=l.length/\i=.int .i64 k) (fun i _=>l.length-(intOf i).toNat)
 case atStart=>exact⟨0,Nat.zero_le _,rfl⟩
 case round=>
  obtain⟨k,qz,rfl⟩:=hrel;by_cases ap:k<l.length
  .obtain⟨⟨blk,off,sp⟩,y,rfl,hy,y0⟩:=H.o.1.elem H.o.2 ap;obtain rfl:sp=none:=y0.1;have g0:=y0.2;simp only at g0;have xW:=hk k y ap hy;have lY:(k:Int)<(l.length:Int):=by omega
   clear y0 hy
   go_wp2_with
    (go_at_call 100
     refine(GZ _ _ _ _ _ _ hn HG.o xW).mono ?_;rintro e w' ⟨r,rfl,rfl,rfl⟩)
   go_round
   case rel=>exact⟨k+1,by omega,by go_num⟩
   case measure=>simp[intOf];omega
  .go_wp2
   go_ret;exact⟨rfl,rfl⟩
theorem yp (w:World) (v:Value) (l:List Int) (g n c:Nat) (a:Option Addr) (h:ao w v l) (hn:1<=n/\n<=5) (hg:w.cell? ⟨g,2,none⟩=some (.slice a n c)) (hk:lh l n l.length):
 Calls ZP 99 #[v,.func (.func 100) #[] #[.pointer (some ⟨g,0,none⟩)]] w (cO w fun r=>r=false):=by
 go_enter ZF99,Tryz.ntmps99
 go_wp2_with
  (go_at_call 115
   refine(yn _ _ _ _ _ _ _ h hn hg hk).mono ?_;rintro e w1 ⟨rfl,rfl⟩)
 go_ret;exact cO.mk rfl
theorem mZ.LS {w w1:World} {v0 v1 v2 v3 v4:Value} {t:Nat} (h:Below (w.heap.size+1) (w.alloc (.cells #[v0,v1,v2,v3,v4] t)) w1):mZ w1 w.heap.size v0 v1 v2 v3 v4:=
 ⟨boxed h 0,boxed h 1,boxed h 2,boxed h 3,boxed h 4⟩
theorem D7 (w:World) (v vl:Value) (b:aS) (l:List Int) (hb:ar w v b) (hl:ao w vl l) (hp:1<=b.parts.length/\b.parts.length<=5) (hpr:j9 b) (pM:io b l):
 Calls ZP 63 #[v,vl] w (bY w fun s=>s=0):=by
 have HB:=hid hb;have UL:Hid (io b l):=pM;have HI:=hid hl;obtain⟨v2,v3,v4,rfl,⟨a2,c2,h2,f2⟩,⟨a3,c3,⟨rfl,_,_,_,_⟩,_⟩,⟨a4,c4,⟨rfl,_,_,_,_⟩,_⟩⟩:=hb;obtain⟨al,cl,AY,fl⟩:=hl;have H2:Hid (bS w v2 b.parts.length a2 c2/\_):=⟨h2,f2⟩
 have HL:Hid (bS w vl l.length al cl/\_):=⟨AY,fl⟩
 obtain⟨rfl,l2,m2,n2,r2⟩:=h2;obtain⟨rfl,ll,ml,nl,rl⟩:=AY;unfold maxLen at m2 ml;clear r2 f2 n2 rl fl nl;have bE:((l.length:Int)!=b.places)=false:=by simp[pM.len]
 have HO:=yp (w.alloc (.cells #[.int .i64 b.am,.int .i64 b.places,.slice a2 b.parts.length c2,.slice a3 b.apart.length c3,.slice a4 b.aa.length c4] 79)) _ l w.heap.size b.parts.length c2 a2
  (HI.o.later (Kp.alloc w _)) hp (boxed (Below.refl _ _) 2) pM.range
 clear pM;go_enter ZF63,Tryz.ntmps63
 go_wp2_with
  (go_at_call 99
   refine HO.mono ?_;rintro e w' ⟨r,rfl,rfl,rfl⟩)
 clear HO;go_loopw [20,5,6] (fun i u v w1=>∃k:Nat,k<=l.length/\i=.int .i64 k/\Hid (Below (w.heap.size+1) (w.alloc (.cells #[.int .i64 b.am,.int .i64 b.places,.slice a2 b.parts.length c2,.slice a3 b.apart.length c3,.slice a4 b.aa.length c4] 79)) w1)) (fun i _ _ _=>l.length-(intOf i).toNat)
 case atStart=>exact⟨0,Nat.zero_le _,rfl,Below.refl _ _⟩
 case round=>
  obtain⟨k,hk,rfl,hB⟩:=hrel;have gg:=mZ.LS hB.o;by_cases ap:k<l.length
  .obtain⟨⟨blk,off,sp⟩,x,rfl,hx,x0⟩:=HL.o.1.elem HL.o.2 ap;obtain rfl:sp=none:=x0.1;obtain⟨xn,rfl⟩:=Int.eq_ofNat_of_zero_le (UL.o.range k x ap hx).1;have hxr:=(UL.o.range k xn ap hx).2;have yS:xn<b.parts.length:=by omega
   obtain⟨⟨pb,po,ps⟩,P,rfl,hP,_,_,_,_,_,vf,p5,LO⟩:=H2.o.1.elem H2.o.2 yS;obtain rfl:ps=none:=p5.1;have hf:=LO;obtain⟨af,cf,⟨rfl,_,_,_,_⟩,_⟩:=LO;have UM:=UL.o.fit k _ ap hx
   have pC:(k:Int)∈P.fits:=by
    obtain⟨P',LP,hm⟩:=UM.fits;simp only[Int.toNat_natCast]at LP;rw[hP]at LP;cases LP;exact hm
   have UN:Hid (0<k->∀y,l[k-1]?=some y->¬Apart b.apart y xn):=UM.M8;have G0:=fun X:an wr=>X.cell gg.c0;have G1:=fun X:an wr=>X.cell gg.c1;have G2:=fun X:an wr=>X.cell gg.c2;have G3:=fun X:an wr=>X.cell gg.c3;have G4:=fun X:an wr=>X.cell gg.c4;have y0:=(x0.later (Kp.boxed hB.o)).2;have Y5:=fun X:an wr=>X.cell (p5.later (Kp.boxed hB.o)).2;simp only[<-Nat.add_assoc]at y0 Y5;have lY:(k:Int)<(l.length:Int):=by omega
   have hx2:(xn:Int)<(b.parts.length:Int):=by omega
   have hz:Hid (w.heap.size+1<=wr.heap.size):=by have:=hB.o.size;simp at this;exact(by omega:w.heap.size+1<=wr.heap.size)
   clear hx hP p5 gg UM
   have tq:∀X:an wr,Calls ZP 54 #[.slice af P.fits.length cf,.int .i64 k] X.1 (fun e qn=>e=.returned (.bool true)/\∃Y:an wr,qn=Y.1):=fun X=>
    (tx _ _ _ k ((hf.later (Kp.boxed hB.o)).later X.kp)).mono fun e w' ⟨r,h1,h2,h3⟩=>⟨by rw[h1,h2.2 pC],X.same h3⟩
   clear pC;by_cases wn:0<k
   .obtain⟨b',z,Bm,Jp,z0⟩:=HL.o.1.elem HL.o.2 (show k-1<l.length by omega);cases Bm;have Z0:=fun X:an wr=>X.cell (z0.later (Kp.boxed hB.o)).2;simp only at Z0;have GW:=UN.o wn z Jp;have qz:wrap64 ((k:Int)-1)=((k-1:Nat):Int):=by unfold wrap64;omega
    have j7:(0:Int)<(k:Int):=by omega
    have ol:((k-1:Nat):Int)<(l.length:Int):=by omega
    clear z0 Jp x0
    have vK:∀X:an wr,Calls ZP 101 #[.agg #[.int .i64 b.am,.int .i64 b.places,.slice (some ⟨pb,po,none⟩) b.parts.length c2,.slice a3 b.apart.length c3,.slice a4 b.aa.length c4],.int .i64 z,.int .i64 xn] X.1 (fun e qn=>e=.returned (.bool false)/\∃Y:an wr,qn=Y.1):=fun X=>
     (ym _ _ _ _ _ ((HB.o.later (Kp.boxed hB.o)).later X.kp) hpr).mono fun e w' ⟨⟨r,h1,h2⟩,h3⟩=>⟨by cases r with
       |false=>exact h1
       |true=>exact absurd h2.t GW,X.on h3⟩
    clear GW;go_wp2
    refine aV (by kernel_rfl) (by kernel_rfl) ?_;repeat(go_big_quiet_step (first|(go_at_call 54;exact tq _)|(go_at_call 101;exact vK _)))
    refine wpQuiet_nil ?_;rintro _ ⟨X,rfl⟩;go_wp2
    go_round
    case rel=>exact⟨k+1,by omega,by go_num,hB.o.trans (X.2.mono hz.o)⟩
    case measure=>simp[intOf];omega
   .have j7:¬(0:Int)<(k:Int):=by omega
    clear x0;go_wp2
    refine aV (by kernel_rfl) (by kernel_rfl) ?_;repeat(go_big_quiet_step (first|(go_at_call 54;exact tq _)))
    refine wpQuiet_nil ?_;rintro _ ⟨X,rfl⟩;go_wp2
    go_round
    case rel=>exact⟨k+1,by omega,by go_num,hB.o.trans (X.2.mono hz.o)⟩
    case measure=>simp[intOf];omega
  .clear gg;go_wp2
   go_ret;exact bY.mk (r:=0) rfl (Below.boxed hB.o)
theorem yq (w:World) (v:Value) (b:aS) (hb:ar w v b) (hv:Valid b):Calls ZP 160 #[v] w (bY w fun s=>s=0):=by
 have HB:=hid hb;have HV:Hid (Valid b):=hv;obtain⟨v2,v3,v4,rfl,⟨a2,c2,⟨rfl,_,_,_,_⟩,_⟩,⟨a3,c3,⟨rfl,_,_,_,_⟩,_⟩,⟨a4,c4,h4,f4⟩⟩:=hb;have H4:Hid (bS w v4 b.aa.length a4 c4/\_):=⟨h4,f4⟩
 obtain⟨rfl,l4,m4,n4,r4⟩:=h4;unfold maxLen at m4;clear r4 f4 n4;have hm:=hv.many;have UJ:¬(4:Int)<(b.aa.length:Int):=by omega
 clear hv;go_enter ZF160,Tryz.ntmps160
 go_wp2
 go_loopw [15,4] (fun i u w1=>∃k:Nat,k<=b.aa.length/\i=.int .i64 k/\Hid (Below (w.heap.size+1) (w.alloc (.cells #[.int .i64 b.am,.int .i64 b.places,.slice a2 b.parts.length c2,.slice a3 b.apart.length c3,.slice a4 b.aa.length c4] 79)) w1)) (fun i _ _=>b.aa.length-(intOf i).toNat)
 case atStart=>exact⟨0,Nat.zero_le _,rfl,Below.refl _ _⟩
 case round=>
  obtain⟨k,hk,rfl,hB⟩:=hrel;obtain⟨s0,s1,s2,s3,s4⟩:=mZ.LS hB.o;by_cases ap:k<b.aa.length
  .obtain⟨⟨blk,off,sp⟩,t,rfl,hx,⟨vf,x0,hf⟩,x1,x2⟩:=H4.o.1.elem H4.o.2 ap;obtain rfl:sp=none:=x0.1;have yY:=hf;obtain⟨af,cf,⟨rfl,_,_,_,_⟩,_⟩:=hf;have HT:=HV.o.aa k t ap hx;have Jt:=HT.GX;have HS:Hid (0<=t.lo/\t.lo<=t.hi/\t.hi<=99/\t.hi-t.lo<100):=(by have:=HT.LQ;omega:0<=t.lo/\t.lo<=t.hi/\t.hi<=99/\t.hi-t.lo<100)
   have mS:w.heap.size+1<=wr.heap.size:=by have:=hB.o.size;simp at this;omega
   have hz:=hid mS;have s0':∀o,(wr.alloc o).cell? ⟨w.heap.size,0,none⟩=some (.int .i64 b.am):=fun o=>(dK (by show w.heap.size<_;omega) o).trans s0;have s1':∀o,(wr.alloc o).cell? ⟨w.heap.size,1,none⟩=some (.int .i64 b.places):=fun o=>(dK (by show w.heap.size<_;omega) o).trans s1;have s2':∀o,(wr.alloc o).cell? ⟨w.heap.size,2,none⟩=some (.slice a2 b.parts.length c2):=fun o=>(dK (by show w.heap.size<_;omega) o).trans s2;have s3':∀o,(wr.alloc o).cell? ⟨w.heap.size,3,none⟩=some (.slice a3 b.apart.length c3):=fun o=>(dK (by show w.heap.size<_;omega) o).trans s3;have s4':∀o,(wr.alloc o).cell? ⟨w.heap.size,4,none⟩=some (.slice (some ⟨blk,off,none⟩) b.aa.length c4):=fun o=>(dK (by show w.heap.size<_;omega) o).trans s4;have y0:=(x0.later (Kp.boxed hB.o)).2;have y1:=(x1.later (Kp.boxed hB.o)).2;have y2:=(x2.later (Kp.boxed hB.o)).2;simp only[<-Nat.add_assoc]at y0 y1 y2;have lY:(k:Int)<(b.aa.length:Int):=by omega
   have hC:=D7 (wr.alloc (.cells #[.slice af t.parts.length cf,.int .i64 t.lo,.int .i64 t.hi] 75)) _ _ _ _ ((HB.o.later (Kp.boxed hB.o)).later (Kp.alloc wr _)) ((yY.later (Kp.boxed hB.o)).later (Kp.alloc wr _)) HV.o.parts.many HV.o.fP Jt;clear yY x0 x1 x2 hx HT Jt
   go_wp2_with(first
    |(go_at_call 63
      refine hC.mono ?_;rintro e w1 ⟨⟨r,rfl,rfl⟩,cW⟩;have B1:Hid (Below (w.heap.size+1) _ w1):=hB.o.step mS cW;have p1:=dU cW 1;have p2:=dU cW 2;simp only[List.getElem?_toArray,List.getElem?_cons_succ,List.getElem?_cons_zero]at p1 p2)
    |(go_at_call 70;refine(kZ _ _ _ _ _ (by omega) _).mono ?_;rintro e w' ⟨r,rfl,hr,rfl⟩;obtain rfl:r=true:=hr.2 HS.o))
   go_round
   case rel=>exact⟨k+1,by omega,by go_num,(Below.alloc B1.o (by have:=B1.o.size;simpa using this) _:Below _ _ _)⟩
   case measure=>simp[intOf];omega
  .go_wp2
   go_ret;exact bY.mk (r:=0) rfl (Below.boxed hB.o)
structure nH (w:World):Prop where
 c0:w.cell? ⟨0,0,none⟩=some (.func (.func 157) #[] #[])
 c1:w.cell? ⟨0,1,none⟩=some (.func (.func 158) #[] #[])
 c2:w.cell? ⟨0,2,none⟩=some (.func (.func 159) #[] #[])
 c3:w.cell? ⟨0,3,none⟩=some (.func (.func 160) #[] #[])
theorem nH.on {w:World} (h:nH w) (X:an w):nH X.1:=⟨X.cell h.c0,X.cell h.c1,X.cell h.c2,X.cell h.c3⟩
theorem nH.later {w w':World} (h:nH w) (k:Below w.heap.size w w'):nH w':=h.on ⟨w',k⟩
section
variable (w:World)
theorem UO:(Instr.index 133 (.agg #[.func (.func 157) #[] #[],.func (.func 158) #[] #[],.func (.func 159) #[] #[],.func (.func 160) #[] #[]]) (.int .i64 0)).run ZP w=.ok (.func (.func 157) #[] #[]) w:=by
 have u:ZP.underlying 133=some (.array 4 95):=by rw[Tz.under];exact Tryz.underlying133
 have a3:=Tryz.isAgg95;have z3:=Tryz.sizeOf95;simp[Instr.index,run_underlying u,asIntOf,part,go_sem,a3,z3]
theorem UP:(Instr.index 133 (.agg #[.func (.func 157) #[] #[],.func (.func 158) #[] #[],.func (.func 159) #[] #[],.func (.func 160) #[] #[]]) (.int .i64 1)).run ZP w=.ok (.func (.func 158) #[] #[]) w:=by
 have u:ZP.underlying 133=some (.array 4 95):=by rw[Tz.under];exact Tryz.underlying133
 have a3:=Tryz.isAgg95;have z3:=Tryz.sizeOf95;simp[Instr.index,run_underlying u,asIntOf,part,go_sem,a3,z3]
theorem UQ:(Instr.index 133 (.agg #[.func (.func 157) #[] #[],.func (.func 158) #[] #[],.func (.func 159) #[] #[],.func (.func 160) #[] #[]]) (.int .i64 2)).run ZP w=.ok (.func (.func 159) #[] #[]) w:=by
 have u:ZP.underlying 133=some (.array 4 95):=by rw[Tz.under];exact Tryz.underlying133
 have a3:=Tryz.isAgg95;have z3:=Tryz.sizeOf95;simp[Instr.index,run_underlying u,asIntOf,part,go_sem,a3,z3]
theorem UR:(Instr.index 133 (.agg #[.func (.func 157) #[] #[],.func (.func 158) #[] #[],.func (.func 159) #[] #[],.func (.func 160) #[] #[]]) (.int .i64 3)).run ZP w=.ok (.func (.func 160) #[] #[]) w:=by
 have u:ZP.underlying 133=some (.array 4 95):=by rw[Tz.under];exact Tryz.underlying133
 have a3:=Tryz.isAgg95;have z3:=Tryz.sizeOf95;simp[Instr.index,run_underlying u,asIntOf,part,go_sem,a3,z3]
end
theorem li (w:World) (v:Value) (b:aS) (hb:ar w v b) (hv:Valid b) (hc:nH w):Calls ZP 47 #[v] w (bY w fun s=>s=0):=by
 have HB:=hid hb;have HV:Hid (Valid b):=hv;obtain⟨v2,v3,v4,rfl,⟨a2,c2,⟨rfl,_,_,_,_⟩,_⟩,⟨a3,c3,⟨rfl,_,_,_,_⟩,_⟩,⟨a4,c4,⟨rfl,_,_,_,_⟩,_⟩⟩:=hb;obtain⟨k0,k1,k2,k3⟩:=hc.later ((Below.refl _ _).alloc (Nat.le_refl _) (.cells #[.int .i64 b.am,.int .i64 b.places,.slice a2 b.parts.length c2,.slice a3 b.apart.length c3,.slice a4 b.aa.length c4] 26));clear hv hc;go_enter ZF47,Tryz.ntmps47
 go_wp2
 go_loopw [7,4,5] (fun i u v w1=>∃k:Int,Hid (k=0\/k=1\/k=2\/k=3\/k=4)/\i=.int .i64 k/\Hid (Below (w.heap.size+1) (w.alloc (.cells #[.int .i64 b.am,.int .i64 b.places,.slice a2 b.parts.length c2,.slice a3 b.apart.length c3,.slice a4 b.aa.length c4] 26)) w1)) (fun i _ _ _=>4-(intOf i).toNat)
 case atStart=>exact⟨0,(.inl rfl:_\/_),rfl,Below.refl _ _⟩
 case round=>
  obtain⟨k,hk,rfl,hB⟩:=hrel;clear k0 k1 k2 k3;obtain⟨s0,s1,s2,s3,s4⟩:=mZ.LS hB.o;have cW:=HB.o.later (Kp.boxed hB.o);have hs:=hB.o.size;simp at hs;rcases hk.o with rfl|rfl|rfl|rfl|rfl
  .have ix:=UO wr;go_wp2_with(go_at_call 157;refine(Bo _ _ _ cW HV.o).mono ?_;rintro e w1 ⟨⟨r,rfl,rfl⟩,iN⟩)
   go_round
   case rel=>exact⟨1,(.inr (.inl rfl):_\/_),rfl,hB.o.trans (iN.mono hs)⟩
   case measure=>simp[intOf]
  .have ix:=UP wr;go_wp2_with(go_at_call 158;refine(Bp _ _ _ cW HV.o).mono ?_;rintro e w1 ⟨⟨r,rfl,rfl⟩,iN⟩)
   go_round
   case rel=>exact⟨2,(.inr (.inr (.inl rfl)):_\/_),rfl,hB.o.trans (iN.mono hs)⟩
   case measure=>simp[intOf]
  .have ix:=UQ wr;go_wp2_with(go_at_call 159;refine(Bq _ _ _ cW HV.o).mono ?_;rintro e w1 ⟨⟨r,rfl,rfl⟩,iN⟩)
   go_round
   case rel=>exact⟨3,(.inr (.inr (.inr (.inl rfl))):_\/_),rfl,hB.o.trans (iN.mono hs)⟩
   case measure=>simp[intOf]
  .have ix:=UR wr;go_wp2_with(go_at_call 160;refine(yq _ _ _ cW HV.o).mono ?_;rintro e w1 ⟨⟨r,rfl,rfl⟩,iN⟩)
   go_round
   case rel=>exact⟨4,(.inr (.inr (.inr (.inr rfl))):_\/_),rfl,hB.o.trans (iN.mono hs)⟩
   case measure=>simp[intOf]
  .go_wp2
   go_ret;exact bY.mk (r:=0) rfl (Below.boxed hB.o)
end Go.Proofs.Cz
