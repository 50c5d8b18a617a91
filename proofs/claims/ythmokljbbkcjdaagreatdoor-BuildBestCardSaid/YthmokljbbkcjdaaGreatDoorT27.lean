/- A part. Conditions: none. -/
import Derived.Test.YthmokljbbkcjdaaGreatDoorT26
import Derived.Laws.IdiomStrings
set_option linter.all false
set_option maxHeartbeats 8000000
set_option maxRecDepth 100000
namespace Go.Proofs.Cz
open Go.RowKit
theorem BP (w:World) (s:ByteArray):∃cap w',(convert 9 77 (.string s)).run ZP w=.ok (.slice (some ⟨w.heap.size,0,none⟩) s.size cap) w'/\Below w.heap.size w w'/\∀j (hj:j<s.size),w'.cell? ⟨w.heap.size,j,none⟩=some (.int .u8 s[j].toNat):=by
 have u9:ZP.underlying 9=some .string:=by rw[Tz.under];exact Tryz.underlying9
 have u77:ZP.underlying 77=some (.slice 5):=by rw[Tz.under];exact Tryz.underlying77
 have u5:ZP.underlying 5=some (.int .u8):=by rw[Tz.under];exact Tryz.underlying5
 refine⟨_,_,run_bytes_of_string w 9 77 5 s u9 u77 u5,?_,?_⟩
 .exact Below.alloc (Below.drewN (Below.refl _ _) 1) (Nat.le_refl _) _
 .intro j hj;exact(World.cell?_alloc_mark _ _ _ _ _).trans (bytesRow_at s _ j hj)
theorem zu (w:World) (s:ByteArray) (h:wO s):Calls ZP 161 #[.string s] w (cW w fun r=>r=true):=by
 obtain⟨h1,h2,hN⟩:=h;have HN:=hid hN;clear hN;obtain⟨cap,w1,UD,hb,hc⟩:=BP w s;have HB:=hid hb;have HC:=hid hc;clear hb hc;go_enter ZF161,Tryz.ntmps161
 go_wp2
 go_loop [8,3,4] (fun i u v=>∃k:Nat,k<=s.size/\i=.int .i64 k) (fun i _ _=>s.size-(intOf i).toNat)
 case atStart=>exact⟨0,Nat.zero_le _,rfl⟩
 case round=>
  obtain⟨k,hk,rfl⟩:=hrel;by_cases aA:k<s.size
  .have y0:=HC.o k aA;have ka:(k:Int)<(s.size:Int):=by omega
   rcases HN.o k aA aA with hl|⟨oY,hd⟩
   .obtain⟨a1,a2⟩:=hl;go_wp2
    go_round
    case rel=>exact⟨k+1,by omega,by go_num⟩
    case measure=>simp[intOf];omega
   .obtain⟨a1,a2⟩:=hd;have kc:(0:Int)<(k:Int):=by omega
    have a3:¬(97:Int)<=s[k].toNat:=by omega
    go_wp2
    go_round
    case rel=>exact⟨k+1,by omega,by go_num⟩
    case measure=>simp[intOf];omega
  .clear UD;go_wp2_with(go_at_call 75;refine(Is _ _ _ _).mono ?_;rintro e w' ⟨r,rfl,hr,rfl⟩)
   go_ret;exact cW.mk (hr.2 (by omega)) HB.o
end Go.Proofs.Cz
namespace Go.Proofs.Cz
open Go.RowKit
end Go.Proofs.Cz
namespace Go.RowKit
theorem Below.step {B:Nat} {a w w1:World} {o:Obj} (h:Below B a w) (hs:B<=w.heap.size) (k:Below (w.alloc o).heap.size (w.alloc o) w1):Below B a w1:=
 (Below.alloc h hs o).trans (k.mono (by simp;omega))
end Go.RowKit
namespace Go.Proofs.Cz
open Go.RowKit
variable {a:Option Addr} {cap k n:Nat} {w:World}
theorem eW {w1:World} {cs:Array Value} {t:Nat} (h:Below (w.alloc (.cells cs t)).heap.size (w.alloc (.cells cs t)) w1) (k:Nat):w1.cell? ⟨w.heap.size,k,none⟩=cs[k]?:=boxed h.jl k
theorem cn.take {v:Value} (h:cn w v n a cap) (hk:k<=n):cn w (.slice a k cap) k a cap:=
 ⟨rfl,Nat.le_trans hk h.le,h.Ry,h.nil,h.row⟩
theorem eK.take {l:List Part} (h:eK w (.slice a n cap) l) (hk:k<=l.length):eK w (.slice a k cap) (l.take k):=by
 obtain⟨a',iT,h1,h2⟩:=h;obtain⟨rfl,-,rfl⟩:a=a'/\_/\cap=iT:=by simpa using h1.eq
 have hl:(l.take k).length=k:=by simp;omega
 refine⟨a,cap,by rw[hl];exact h1.take hk,fun b e j x hj=>h2 b e j x ?_⟩;have nj:j<k:=by have:=(List.getElem?_eq_some_iff.1 hj).1;omega
 rw[List.getElem?_take]at hj;simpa [nj]using hj
theorem eJ.take {l:List (Int×Int)} (h:eJ w (.slice a n cap) l) (hk:k<=l.length):eJ w (.slice a k cap) (l.take k):=by
 obtain⟨a',iT,h1,h2⟩:=h;obtain⟨rfl,-,rfl⟩:a=a'/\_/\cap=iT:=by simpa using h1.eq
 have hl:(l.take k).length=k:=by simp;omega
 refine⟨a,cap,by rw[hl];exact h1.take hk,fun b e j x hj=>h2 b e j x ?_⟩;have nj:j<k:=by have:=(List.getElem?_eq_some_iff.1 hj).1;omega
 rw[List.getElem?_take]at hj;simpa [nj]using hj
theorem wV (w:World) (g:Nat) (n1 nm:ByteArray) (a b c d:Int) (vf:Value) (af:Option Addr) (lf cf:Nat) (Dq:vf=.slice af lf cf) (hg:w.cell? ⟨g,0,none⟩=some (.string nm)) (br:n1≠nm):
 Calls ZP 163 #[.agg #[.string n1,.int .i64 a,.int .i64 b,.int .i64 c,.int .i64 d,vf],.pointer (some ⟨g,0,none⟩)] w (cW w fun r=>r=false):=by
 subst Dq;have sZ:=(Kp.alloc w (.cells #[.string n1,.int .i64 a,.int .i64 b,.int .i64 c,.int .i64 d,.slice af lf cf] 34))
 have JS:(w.alloc (.cells #[.string n1,.int .i64 a,.int .i64 b,.int .i64 c,.int .i64 d,.slice af lf cf] 34)).cell? ⟨g,0,none⟩=some (.string nm):=
  (am.cell ⟨_,(Below.refl _ _).alloc (Nat.le_refl _) _⟩ hg:_)
 have hd:(n1.toList==nm.toList)=false:=by
  cases hh:(n1.toList==nm.toList)with
  |false=>rfl
  |true=>exact absurd (Do hh) br
 clear sZ;go_enter ZF163,Tryz.ntmps163
 go_wp2
 go_ret;exact cW.mk rfl ((Below.refl _ _).alloc (Nat.le_refl _) _)
theorem zv (w:World) (v:Value) (l:List Part) (g:Nat) (nm:ByteArray) (h:eK w v l) (hg:w.cell? ⟨g,0,none⟩=some (.string nm)) (br:∀x∈l,x.name≠nm):
 Calls ZP 164 #[v,.func (.func 163) #[] #[.pointer (some ⟨g,0,none⟩)]] w (ci w fun r=>r=-1):=by
 obtain⟨a,c,h1,h2⟩:=h;have H:Hid (cn w v l.length a c/\_):=⟨h1,h2⟩
 have HG:=hid hg;obtain⟨rfl,l1,m1,n1,r1⟩:=h1;unfold maxLen at m1;clear h2 n1 r1 hg;go_enter ZF164,Tryz.ntmps164
 go_wp2
 go_loopw [8,5] (fun i j w1=>∃k:Nat,k<=l.length/\i=.int .i64 k/\Hid (Below w.heap.size w w1)) (fun i _ _=>l.length-(intOf i).toNat)
 case atStart=>exact⟨0,Nat.zero_le _,rfl,Below.refl _ _⟩
 case round=>
  obtain⟨k,hk,rfl,hB⟩:=hrel;by_cases aA:k<l.length
  .obtain⟨⟨blk,off,sp⟩,x,rfl,hx,x0,x1,x2,x3,x4,vf,x5,x6⟩:=H.o.1.elem H.o.2 aA;obtain rfl:sp=none:=x0.1;obtain⟨af,cf,hf,_⟩:=x6;obtain⟨rfl,lf,mf,_,_⟩:=hf;have y0:=(x0.later (Kp.of hB.o)).2;have y1:=(x1.later (Kp.of hB.o)).2;have y2:=(x2.later (Kp.of hB.o)).2;have y3:=(x3.later (Kp.of hB.o)).2;have y4:=(x4.later (Kp.of hB.o)).2;have y5:=(x5.later (Kp.of hB.o)).2;simp only[<-Nat.add_assoc]at y0 y1 y2 y3 y4 y5;have ka:(k:Int)<(l.length:Int):=by omega
   have hgr:=am.cell ⟨wr,hB.o⟩ HG.o;have Cu:=br x (List.mem_of_getElem? hx);clear x0 x1 x2 x3 x4 x5 hx
   go_wp2_with
    (go_at_call 163
     refine(wV _ _ _ _ _ _ _ _ _ _ _ _ rfl hgr Cu).mono ?_;rintro e w1 ⟨⟨r,rfl,rfl⟩,bN⟩)
   go_round
   case rel=>exact⟨k+1,by omega,by go_num,hB.o.trans (bN.mono hB.o.size)⟩
   case measure=>simp[intOf];omega
  .go_wp2
   go_ret;exact ci.mk (r:=-1) rfl hB.o
theorem zx (w:World) (v:Value) (l:List Part) (g:Nat) (nm:ByteArray) (h:eK w v l) (hg:w.cell? ⟨g,0,none⟩=some (.string nm)) (br:∀x∈l,x.name≠nm):
 Calls ZP 162 #[v,.func (.func 163) #[] #[.pointer (some ⟨g,0,none⟩)]] w (cW w fun r=>r=false):=by
 go_enter ZF162,Tryz.ntmps162
 go_wp2_with
  (go_at_call 164
   refine(zv _ _ _ _ _ h hg br).mono ?_;rintro e w1 ⟨⟨r,rfl,rfl⟩,bN⟩)
 go_ret;exact cW.mk rfl bN
end Go.Proofs.Cz
namespace Go.Proofs.Cz
open Go.RowKit
theorem dB.eq {w:World} {P:Bool->Prop} {v:Value} {r:Bool} (h:P r) (e:v=.bool r):dB w P (.returned v) w:=by subst e;exact .mk h
theorem E8 (w:World) (v:Value) (l:List Int) (x:Int) (h:az w v l):Calls ZP 95 #[v,.int .i64 x] w (fun e w'=>∃r,e=.returned (.int .i64 r)/\(0<=r↔x∈l)/\w'=w):=by
 obtain⟨a,c,h1,h2⟩:=h;have H:Hid (cn w v l.length a c/\_):=⟨h1,h2⟩
 obtain⟨rfl,l1,m1,n1,r1⟩:=h1;unfold maxLen at m1;clear h2 n1 r1;go_enter ZF95,Tryz.ntmps95
 go_wp2
 go_loop [8,5] (fun i j=>∃k:Nat,k<=l.length/\Hid (iN l x k)/\i=.int .i64 k) (fun i _=>l.length-(intOf i).toNat)
 case atStart=>exact⟨0,Nat.zero_le _,iN.zero l x,rfl⟩
 case round=>
  obtain⟨k,hk,hN,rfl⟩:=hrel;by_cases aA:k<l.length
  .obtain⟨⟨blk,off,sp⟩,y,rfl,hy,y0⟩:=H.o.1.elem H.o.2 aA;obtain rfl:sp=none:=y0.1;have g0:=y0.2;simp only at g0;have HY:=hid hy;have ka:(k:Int)<(l.length:Int):=by omega
   clear y0 hy;by_cases e:x=y
   .subst e;go_wp2
    go_ret;exact⟨k,rfl,⟨fun _=>List.mem_of_getElem? HY.o,fun _=>by omega⟩,rfl⟩
   .have e':Hid (y≠x):=fun h=>e h.symm;go_wp2
    go_round
    case rel=>exact⟨k+1,by omega,hN.o.succ HY.o e'.out,by go_num⟩
    case measure=>simp[intOf];omega
  .have HN:Hid (x∉l):=(by have e:k=l.length:=by omega
                          subst e;exact hN.o.all)
   go_wp2
   go_ret;exact⟨-1,rfl,⟨fun h=>by omega,fun h=>absurd h HN.o⟩,rfl⟩
theorem ii (w:World) (v:Value) (l:List Int) (x:Int) (h:az w v l):Calls ZP 54 #[v,.int .i64 x] w (dB w fun r=>Tr r (x∈l)):=by
 go_enter ZF54,Tryz.ntmps54
 go_wp2_with
  (go_at_call 95
   refine(E8 _ _ _ x h).mono ?_;rintro e w1 ⟨r,rfl,hr,rfl⟩;by_cases h0:0<=r)
 .have hx:Hid (x∈l):=hr.1 h0;go_ret;exact dB.eq (r:=true) (Tr.yes hx.o) (by simp[hx.o])
 .have hx:Hid (¬x∈l):=fun h=>by have:=hr.2 h;omega
  go_ret;exact dB.eq (r:=false) (Tr.no hx.o) (by simp[hx.o])
theorem tP (w:World) (v:Value) (l:List (Int×Int)) (p q:Int) (h:eJ w v l):
 Calls ZP 133 #[v,.agg #[.int .i64 p,.int .i64 q]] w (ci w fun r=>0<=r↔(p,q)∈l):=by
 obtain⟨a,c,h1,h2⟩:=h;have H:Hid (cn w v l.length a c/\_):=⟨h1,h2⟩
 obtain⟨rfl,l1,m1,n1,r1⟩:=h1;unfold maxLen at m1;clear h2 n1 r1;go_enter ZF133,Tryz.ntmps133
 go_wp2
 go_loopw [8,5] (fun i j w1=>∃k:Nat,k<=l.length/\Hid (iO l (p,q) k)/\i=.int .i64 k/\∃n,w1=(w.alloc (.cells #[.int .i64 p,.int .i64 q] 119)).drewN n) (fun i _ _=>l.length-(intOf i).toNat)
 case atStart=>exact⟨0,Nat.zero_le _,iO.zero l _,rfl,0,rfl⟩
 case round=>
  obtain⟨k,hk,hN,rfl,n0,rfl⟩:=hrel;by_cases aA:k<l.length
  .obtain⟨⟨blk,off,sp⟩,⟨ya,yb⟩,rfl,hy,y0,y1⟩:=H.o.1.elem H.o.2 aA;obtain rfl:sp=none:=y0.1;have g0:=(y0.later (Kp.alloc w (.cells #[.int .i64 p,.int .i64 q] 119))).2;have g1:=(y1.later (Kp.alloc w (.cells #[.int .i64 p,.int .i64 q] 119))).2;simp only[<-Nat.add_assoc]at g0 g1;have HY:=hid hy;have ka:(k:Int)<(l.length:Int):=by omega
   clear y0 y1 hy;by_cases e1:p=ya
   .subst e1;by_cases e2:q=yb
    .subst e2;go_wp2
     go_quiet (fail)
     go_wp2
     go_ret;exact ci.mk (r:=k) ⟨fun _=>List.mem_of_getElem? HY.o,fun _=>by omega⟩ (Below.drewN (Below.drewN (Below.alloc (Below.refl _ _) (Nat.le_refl _) _) _) _)
    .have br:Hid ((p,yb)≠(p,q)):=(fun h=>e2 (by cases h;rfl):(p,yb)≠(p,q))
     go_wp2
     go_quiet (fail)
     go_wp2
     go_round
     case rel=>exact⟨k+1,by omega,hN.o.succ HY.o br.o,by go_num,_,rfl⟩
     case measure=>simp[intOf];omega
   .have br:Hid ((ya,yb)≠(p,q)):=(fun h=>e1 (by cases h;rfl):(ya,yb)≠(p,q))
    go_wp2
    go_quiet (fail)
    go_wp2
    go_round
    case rel=>exact⟨k+1,by omega,hN.o.succ HY.o br.o,by go_num,_,rfl⟩
    case measure=>simp[intOf];omega
  .have HN:Hid ((p,q)∉l):=(by
    have e:k=l.length:=by omega
    subst e;intro hm;obtain⟨j,hj,nj⟩:=List.getElem_of_mem hm;exact hN.o j _ hj (List.getElem?_eq_getElem hj) nj)
   go_wp2
   go_ret;exact ci.mk (r:=-1) ⟨fun h=>by omega,fun h=>absurd h HN.o⟩ (Below.drewN (Below.alloc (Below.refl _ _) (Nat.le_refl _) _) _)
theorem eM (w:World) (v:Value) (l:List (Int×Int)) (p q:Int) (h:eJ w v l):
 Calls ZP 116 #[v,.agg #[.int .i64 p,.int .i64 q]] w (cW w fun r=>Tr r ((p,q)∈l)):=by
 go_enter ZF116,Tryz.ntmps116
 have h':=h.later (Kp.alloc w (.cells #[.int .i64 p,.int .i64 q] 119))
 go_wp2_with
  (go_at_call 133
   refine(tP _ _ _ p q h').mono ?_;rintro e w1 ⟨⟨r,rfl,hr⟩,bN⟩;by_cases h0:0<=r)
 .have hx:Hid ((p,q)∈l):=hr.1 h0;go_ret;exact cW.eq (r:=true) (Tr.yes hx.o) (Below.step (Below.refl _ _) (Nat.le_refl _) bN) (by simp[hx.o])
 .have hx:Hid (¬(p,q)∈l):=fun h=>by have:=hr.2 h;omega
  go_ret;exact cW.eq (r:=false) (Tr.no hx.o) (Below.step (Below.refl _ _) (Nat.le_refl _) bN) (by simp[hx.o])
theorem E9 (w:World) (v:Value) (b:av) (hb:aD w v b) (h:Valid b):Calls ZP 157 #[v] w (ci w fun r=>r=0):=by
 obtain⟨v2,v3,v4,rfl,⟨a2,c2,⟨rfl,_,_,_,_⟩,_⟩,⟨a3,c3,⟨rfl,_,_,_,_⟩,_⟩,⟨a4,c4,⟨rfl,_,_,_,_⟩,_⟩⟩:=hb;obtain⟨h1,h2,_,_,_,_⟩:=h;have d1:(decide (1<=b.an)&&decide (b.an<=99))=true:=by simpa using h1
 have d2:(decide (1<=b.places)&&decide (b.places<=4))=true:=by simpa using h2
 clear h1 h2;go_enter ZF157,Tryz.ntmps157
 go_wp2_with(go_at_call 75;refine(dQ _ _ _ _).mono ?_;(first|rw[d1]|rw[d2]);rintro e w' ⟨rfl,rfl⟩)
 go_ret;exact ci.mk (r:=0) rfl ((Below.refl _ _).alloc (Nat.le_refl _) _)
theorem Fa (w:World) (v:Value) (b:av) (hb:aD w v b) (h:Valid b):Calls ZP 158 #[v] w (ci w fun r=>r=0):=by
 obtain⟨v2,v3,v4,rfl,Iu,h3,h4⟩:=hb;have HPA:=hid Iu;obtain⟨a2,c2,h2,f2⟩:=Iu;have H2:Hid (cn w v2 b.parts.length a2 c2/\_):=⟨h2,f2⟩
 have HV:Hid (Valid b):=h;obtain⟨rfl,l2,m2,n2,r2⟩:=h2;obtain⟨a3,c3,⟨rfl,_,_,_,_⟩,_⟩:=h3;obtain⟨a4,c4,⟨rfl,_,_,_,_⟩,_⟩:=h4;unfold maxLen at m2;clear r2 f2 n2;have hm:=h.parts.many;have XB:=h.places;have d1:(decide ((1:Int)<=(b.parts.length:Int))&&decide ((b.parts.length:Int)<=5))=true:=by simp;omega
 clear h;go_enter ZF158,Tryz.ntmps158
 go_wp2_with(go_at_call 75;refine(dQ _ _ _ _).mono ?_;rw[d1];rintro e w' ⟨rfl,rfl⟩)
 go_loopw [17,3,4] (fun i u v w1=>∃k:Nat,k<=b.parts.length/\i=.int .i64 k/\Hid (Below (w.heap.size+1) (w.alloc (.cells #[.int .i64 b.an,.int .i64 b.places,.slice a2 b.parts.length c2,.slice a3 b.apart.length c3,.slice a4 b.ac.length c4] 79)) w1)) (fun i _ _ _=>b.parts.length-(intOf i).toNat)
 case atStart=>exact⟨0,Nat.zero_le _,rfl,Below.refl _ _⟩
 case round=>
  obtain⟨k,hk,rfl,hB⟩:=hrel;have g1:=boxed hB.o 1;have g2:=boxed hB.o 2;simp only[List.getElem?_toArray,List.getElem?_cons_succ,List.getElem?_cons_zero]at g1 g2;by_cases aA:k<b.parts.length
  .obtain⟨⟨blk,off,sp⟩,x,rfl,hx,x0,x1,x2,x3,x4,vf,x5,x6⟩:=H2.o.1.elem H2.o.2 aA;obtain rfl:sp=none:=x0.1;have x7:=x6.later (Kp.boxed hB.o);obtain⟨af,cf,hf,_⟩:=x6;obtain⟨rfl,lf,mf,_,_⟩:=hf;unfold maxLen at mf;have HX:Hid (b.parts[k]?=some x/\az wr (.slice af x.fits.length cf) x.fits):=⟨hx,x7⟩
   have HP:Hid (wP b.places x/\∀i y,i<k->b.parts[i]?=some y->y.name≠x.name):=HV.o.parts.all k x aA hx;have FP:=HP.o.1.name;have y0:=(x0.later (Kp.boxed hB.o)).2;have y1:=(x1.later (Kp.boxed hB.o)).2;have y2:=(x2.later (Kp.boxed hB.o)).2;have y3:=(x3.later (Kp.boxed hB.o)).2;have y4:=(x4.later (Kp.boxed hB.o)).2;have y5:=(x5.later (Kp.boxed hB.o)).2;simp only[<-Nat.add_assoc]at y0 y1 y2 y3 y4 y5;have mL:w.heap.size+1<=wr.heap.size:=by have:=hB.o.size;simp at this;omega
   have pG:blk<w.heap.size:=x0.lt;have ka:(k:Int)<(b.parts.length:Int):=by omega
   clear x0 x1 x2 x3 x4 x5 x7 hx;have Nx:=HP.o.1.cost;have Iv:=HP.o.1.jk;have UE:=HP.o.1.time;have UF:=HP.o.1.wide;have e1:(decide (0<=x.cost)&&decide (x.cost<=99))=true:=by simpa using Nx
   have e2:(decide (0<=x.jk)&&decide (x.jk<=3))=true:=by simpa using Iv
   have Ny:x.lo>=0/\x.lo<=x.hi/\x.hi<=20/\x.hi-x.lo<4:=by omega
   have HS:=hid Ny;clear Nx Iv UE UF Ny
   go_wp2_with(first
    |(go_at_call 161
      refine(zu _ _ FP).mono ?_;rintro e w1 ⟨⟨r,rfl,rfl⟩,bN⟩;have B1:Hid (Below (w.heap.size+1) _ w1):=hB.o.step mL bN;have p0:=eW bN 0;have p1:=eW bN 1;have p2:=eW bN 2;have p3:=eW bN 3;have p4:=eW bN 4;have p5:=eW bN 5;have q1:=boxed B1.o 1;have q2:=boxed B1.o 2;simp only[List.getElem?_toArray,List.getElem?_cons_succ,List.getElem?_cons_zero]at p0 p1 p2 p3 p4 p5 q1 q2)
    |(go_at_call 162
      refine(zx _ _ (b.parts.take k) _ x.name ((HPA.o.later (Kp.boxed B1.o)).take hk) p0 (fun y hy=>?_)).mono ?_
      .obtain⟨j,hj,rfl⟩:=List.getElem_of_mem hy;rw[List.getElem_take];have nj:j<k:=by simp at hj;omega
       exact HP.o.2 j _ nj (List.getElem?_eq_getElem _)
      rintro e w2 ⟨⟨r,rfl,rfl⟩,iA⟩;have B2:Hid (Below (w.heap.size+1) _ w2):=B1.o.trans (iA.mono (by have:=B1.o.size;simpa using this));have s1:=am.cell ⟨w2,iA⟩ p1;have s2:=am.cell ⟨w2,iA⟩ p2;have s3:=am.cell ⟨w2,iA⟩ p3;have s4:=am.cell ⟨w2,iA⟩ p4;have s5:=am.cell ⟨w2,iA⟩ p5;have t1:=am.cell ⟨w2,iA⟩ q1;simp only at s1 s2 s3 s4 s5 t1;have s5a:∀o,(w2.alloc o).cell? ⟨wr.heap.size,5,none⟩=_:=fun o=>am.cell ⟨w2.alloc o,(Below.refl _ _).alloc (Nat.le_refl _) o⟩ s5;have t1a:∀o,(w2.alloc o).cell? ⟨w.heap.size,1,none⟩=_:=fun o=>am.cell ⟨w2.alloc o,(Below.refl _ _).alloc (Nat.le_refl _) o⟩ t1;have HF:Hid (∀o,az (w2.alloc o) (.slice af x.fits.length cf) x.fits):=fun o=>(HX.o.2.later (Kp.trans (Kp.alloc wr _) (Kp.of bN) (by simp))).later (Kp.trans (Kp.of iA) (Kp.alloc w2 o) iA.size);clear p0 p1 p2 p3 p4 p5 q1 q2)
    |(go_at_call 75;refine(dQ _ _ _ _).mono ?_;(first|rw[e1]|rw[e2]);rintro e w' ⟨rfl,rfl⟩)
    |(go_at_call 70;refine(sj _ _ _ _ _ (by omega) _).mono ?_;rintro e w' ⟨r,rfl,hr,rfl⟩;obtain rfl:r=true:=hr.2 HS.o))
   have Uz:wrap64 (b.places-1)=b.places-1:=by unfold wrap64;omega
   go_loop [51,5,6] (fun i u v=>∃m:Nat,m<=x.fits.length/\i=.int .i64 m) (fun i _ _=>x.fits.length-(intOf i).toNat)
   case atStart=>exact⟨0,Nat.zero_le _,rfl⟩
   case round=>
    obtain⟨m,hm2,rfl⟩:=hrel;by_cases i7:m<x.fits.length
    .obtain⟨a',iT,AE,XC⟩:=HF.o (.cells #[.int .i64 x.lo,.int .i64 x.hi] 31);have he:=AE.eq;simp only[Value.slice.injEq]at he;obtain⟨rfl,-,rfl⟩:=he;obtain⟨⟨fb,fo,fs⟩,y,rfl,hy,y0⟩:=AE.elem XC i7;obtain rfl:fs=none:=y0.1;have z0:=y0.2;simp only at z0;have pa:=HP.o.1.Ux m y i7 hy;have e3:(decide (0<=y)&&decide (y<=b.places-1))=true:=by simpa using And.intro pa.1 pa.2.1
     have Uy:(m:Int)<(x.fits.length:Int):=by omega
     obtain⟨-,-,hrp⟩:=pa;by_cases J4:0<m
     .obtain⟨b',z,Ir,Nv,z1⟩:=AE.elem XC (show m-1<x.fits.length by omega);cases Ir;have z1:=z1.2;simp only at z1;have hzy:¬y<=z:=by have:=hrp z J4 Nv;omega
      have j8:wrap64 ((m:Int)-1)=((m-1:Nat):Int):=by unfold wrap64;omega
      have kc:(0:Int)<(m:Int):=by omega
      have lg:((m-1:Nat):Int)<(x.fits.length:Int):=by omega
      clear Nv hrp AE XC y0 hy;go_wp2_with(go_at_call 75;refine(dQ _ _ _ _).mono ?_;rw[e3];rintro e w' ⟨rfl,rfl⟩)
      go_round
      case rel=>exact⟨m+1,by omega,by go_num⟩
      case measure=>simp[intOf];omega
     .have kc:¬(0:Int)<(m:Int):=by omega
      clear hrp AE XC y0 hy;go_wp2_with(go_at_call 75;refine(dQ _ _ _ _).mono ?_;rw[e3];rintro e w' ⟨rfl,rfl⟩)
      go_round
      case rel=>exact⟨m+1,by omega,by go_num⟩
      case measure=>simp[intOf];omega
    .go_wp2
     go_round
     case rel=>exact⟨k+1,by omega,by go_num,(Below.alloc B2.o (by have:=B2.o.size;simpa using this) _:Below _ _ _)⟩
     case measure=>simp[intOf];omega
  .go_wp2
   go_ret;exact ci.mk (r:=0) rfl (Below.boxed hB.o)
theorem Fb (w:World) (v:Value) (b:av) (hb:aD w v b) (h:Valid b):Calls ZP 159 #[v] w (ci w fun r=>r=0):=by
 obtain⟨v2,v3,v4,rfl,h2,Iu,h4⟩:=hb;have HPA:=hid Iu;obtain⟨a3,c3,h3,f3⟩:=Iu;have H3:Hid (cn w v3 b.apart.length a3 c3/\_):=⟨h3,f3⟩
 have HV:Hid (Valid b):=h;obtain⟨rfl,l3,m3,n3,r3⟩:=h3;obtain⟨a2,c2,⟨rfl,_,m2,_,_⟩,_⟩:=h2;obtain⟨a4,c4,⟨rfl,_,_,_,_⟩,_⟩:=h4;unfold maxLen at m3;clear r3 f3 n3 m2;have hm:=h.hQ.many;have RB:=h.parts.many;have lq:wrap64 ((b.parts.length:Int)-1)=b.parts.length-1:=by unfold wrap64;omega
 have uJ:¬(5:Int)<(b.apart.length:Int):=by omega
 clear h;go_enter ZF159,Tryz.ntmps159
 go_wp2
 go_loopw [14,3,4] (fun i u v w1=>∃k:Nat,k<=b.apart.length/\i=.int .i64 k/\Hid (Below (w.heap.size+1) (w.alloc (.cells #[.int .i64 b.an,.int .i64 b.places,.slice a2 b.parts.length c2,.slice a3 b.apart.length c3,.slice a4 b.ac.length c4] 79)) w1)) (fun i _ _ _=>b.apart.length-(intOf i).toNat)
 case atStart=>exact⟨0,Nat.zero_le _,rfl,Below.refl _ _⟩
 case round=>
  obtain⟨k,hk,rfl,hB⟩:=hrel;have g2:=boxed hB.o 2;have g3:=boxed hB.o 3;simp only[List.getElem?_toArray,List.getElem?_cons_succ,List.getElem?_cons_zero]at g2 g3;by_cases aA:k<b.apart.length
  .obtain⟨⟨blk,off,sp⟩,⟨xa,xb⟩,rfl,hx,x0,x1⟩:=H3.o.1.elem H3.o.2 aA;obtain rfl:sp=none:=x0.1;have HX:=hid hx;have HP:=HV.o.hQ.all k _ aA hx;have e1:(decide (0<=xa)&&decide (xa<=(b.parts.length:Int)-1))=true:=by simpa using HP.1.one
   have e2:(decide (0<=xb)&&decide (xb<=(b.parts.length:Int)-1))=true:=by simpa using HP.1.two
   have e3:¬xb<xa:=by have:=HP.1.le;simp only at this;omega
   have kL:Hid ((xa,xb)∉b.apart.take k):=(by
    intro hm;obtain⟨j,hj,nj⟩:=List.getElem_of_mem hm;rw[List.getElem_take]at nj;exact HP.2 j _ (by simp at hj;omega) (List.getElem?_eq_getElem _) nj)
   have y0:=(x0.later (Kp.boxed hB.o)).2;have y1:=(x1.later (Kp.boxed hB.o)).2;simp only[<-Nat.add_assoc]at y0 y1;have mL:w.heap.size+1<=wr.heap.size:=by have:=hB.o.size;simp at this;omega
   have pG:blk<w.heap.size:=x0.lt;have ka:(k:Int)<(b.apart.length:Int):=by omega
   have kc:(k:Int)<=(c3:Int):=by omega
   clear x0 x1 hx HP;have SJ:∀o,(wr.alloc o).cell? ⟨w.heap.size,2,none⟩=some (.slice a2 b.parts.length c2):=fun o=>(eL (by show w.heap.size<_;omega) o).trans g2
   have G3:∀X:am (wr.alloc (.cells #[.int .i64 xa,.int .i64 xb] 119)),X.1.cell? ⟨w.heap.size,3,none⟩=some (.slice (some ⟨blk,off,none⟩) b.apart.length c3):=fun X=>
    X.cell ((eL (by show w.heap.size<_;omega) _).trans g3)
   have T0:∀X:am (wr.alloc (.cells #[.int .i64 xa,.int .i64 xb] 119)),X.1.cell? ⟨wr.heap.size,0,none⟩=some (.int .i64 xa):=fun X=>eW X.2 0;have T1:∀X:am (wr.alloc (.cells #[.int .i64 xa,.int .i64 xb] 119)),X.1.cell? ⟨wr.heap.size,1,none⟩=some (.int .i64 xb):=fun X=>eW X.2 1
   have kC:∀X:am (wr.alloc (.cells #[.int .i64 xa,.int .i64 xb] 119)),Calls ZP 116 #[.slice (some ⟨blk,off,none⟩) k c3,.agg #[.int .i64 xa,.int .i64 xb]] X.1 (fun e iU=>e=.returned (.bool false)/\∃Y:am (wr.alloc (.cells #[.int .i64 xa,.int .i64 xb] 119)),iU=Y.1):=fun X=>
    (eM _ _ _ _ _ (((HPA.o.later (Kp.boxed hB.o)).later (Kp.trans (Kp.alloc wr _) X.kp (by simp))).take hk)).mono fun e w' ⟨⟨r,h1,h2⟩,h3⟩=>⟨by cases r with
      |false=>exact h1
      |true=>exact absurd h2.t kL.o,X.on h3⟩
   have hz:=hid mL;go_wp2_with(go_at_call 75;refine(dQ _ _ _ _).mono ?_;(first|rw[e1]|rw[e2]);rintro e w' ⟨rfl,rfl⟩)
   refine aq (by kernel_rfl) (by kernel_rfl) ?_;repeat(go_big_quiet_step (first|(go_at_call 116;exact kC _)))
   refine wpQuiet_nil ?_;rintro _ ⟨X,rfl⟩;go_wp2
   go_round
   case rel=>exact⟨k+1,by omega,by go_num,hB.o.step hz.o X.2⟩
   case measure=>simp[intOf];omega
  .go_wp2
   go_ret;exact ci.mk (r:=0) rfl (Below.boxed hB.o)
theorem uK {b:av} (h:kA b) (p q:Int):(min p q,max p q)∈b.apart↔Apart b.apart p q:=by
 constructor
 .intro hm;refine⟨_,hm,?_⟩;by_cases e:p<=q
  .left;simp only;omega
  .right;simp only;omega
 .rintro⟨⟨x,y⟩,hm,hx⟩;obtain⟨j,hj,nj⟩:=List.getElem_of_mem hm;have hle:=(h.all j _ hj (by rw[List.getElem?_eq_getElem hj,nj])).1.le
  have:(min p q,max p q)=(x,y):=by
   rcases hx with⟨rfl,rfl⟩|⟨rfl,rfl⟩<;>simp only at*<;>ext<;>simp only<;>omega
  rw[this];exact hm
theorem sv (w:World) (v:Value) (b:av) (p q:Int) (hb:aD w v b) (h:kA b):
 Calls ZP 101 #[v,.int .i64 p,.int .i64 q] w (cW w fun r=>Tr r (Apart b.apart p q)):=by
 obtain⟨v2,v3,v4,rfl,h2,RC,h4⟩:=hb;obtain⟨a2,c2,⟨rfl,_,_,_,_⟩,_⟩:=h2;obtain⟨a4,c4,⟨rfl,_,_,_,_⟩,_⟩:=h4;have hP0:=RC;obtain⟨a3,c3,⟨rfl,_,_,_,_⟩,_⟩:=hP0;have RC:=RC.later (Kp.alloc w (.cells #[.int .i64 b.an,.int .i64 b.places,.slice a2 b.parts.length c2,.slice a3 b.apart.length c3,.slice a4 b.ac.length c4] 79));by_cases hqp:q<p
 .have hC:=eM _ _ _ q p RC
  have hI:(q,p)∈b.apart↔Apart b.apart p q:=by
   have:=uK h p q;rwa [show min p q=q by omega,show max p q=p by omega]at this
  have zhd:¬p<q:=by omega
  go_enter ZF101,Tryz.ntmps101
  go_wp2_with(go_at_call 116;refine hC.mono ?_;rintro e w1 ⟨⟨r,rfl,hr⟩,bN⟩;cases r)
  .go_ret;exact cW.mk (Tr.no fun ha=>hr.f (hI.2 ha)) (Below.step (Below.refl _ _) (Nat.le_refl _) bN)
  .go_ret;exact cW.mk (Tr.yes (hI.1 hr.t)) (Below.step (Below.refl _ _) (Nat.le_refl _) bN)
 .have hI:(p,q)∈b.apart↔Apart b.apart p q:=by
   have:=uK h p q;rwa [show min p q=p by omega,show max p q=q by omega]at this
  by_cases hpq:p<q
  .have hC:=eM _ _ _ p q RC;go_enter ZF101,Tryz.ntmps101
   go_wp2_with(go_at_call 116;refine hC.mono ?_;rintro e w1 ⟨⟨r,rfl,hr⟩,bN⟩;cases r)
   .go_ret;exact cW.mk (Tr.no fun ha=>hr.f (hI.2 ha)) (Below.step (Below.refl _ _) (Nat.le_refl _) bN)
   .go_ret;exact cW.mk (Tr.yes (hI.1 hr.t)) (Below.step (Below.refl _ _) (Nat.le_refl _) bN)
  .obtain rfl:p=q:=by omega
   have hC:=eM _ _ _ p p RC;go_enter ZF101,Tryz.ntmps101
   go_wp2_with(go_at_call 116;refine hC.mono ?_;rintro e w1 ⟨⟨r,rfl,hr⟩,bN⟩;cases r)
   .go_ret;exact cW.mk (Tr.no fun ha=>hr.f (hI.2 ha)) (Below.step (Below.refl _ _) (Nat.le_refl _) bN)
   .go_ret;exact cW.mk (Tr.yes (hI.1 hr.t)) (Below.step (Below.refl _ _) (Nat.le_refl _) bN)
theorem LF (w:World) (g n c:Nat) (a:Option Addr) (k:Int) (hn:1<=n/\n<=5) (hg:w.cell? ⟨g,2,none⟩=some (.slice a n c)) (hk:0<=k/\k<=(n:Int)-1):
 Calls ZP 100 #[.int .i64 k,.pointer (some ⟨g,0,none⟩)] w (dB w fun r=>r=false):=by
 have lq:wrap64 ((n:Int)-1)=n-1:=by unfold wrap64;omega
 have e1:(decide (0<=k)&&decide (k<=(n:Int)-1))=true:=by simpa using hk
 clear hk;go_enter ZF100,Tryz.ntmps100
 go_wp2_with(go_at_call 75;refine(dQ _ _ _ _).mono ?_;rw[e1];rintro e w' ⟨rfl,rfl⟩)
 go_ret;exact dB.mk rfl
theorem BQ (w:World) (v:Value) (l:List Int) (g n c:Nat) (a:Option Addr) (h:az w v l) (hn:1<=n/\n<=5) (hg:w.cell? ⟨g,2,none⟩=some (.slice a n c)) (hk:oG l n l.length):
 Calls ZP 115 #[v,.func (.func 100) #[] #[.pointer (some ⟨g,0,none⟩)]] w (fun e w'=>e=.returned (.int .i64 (-1))/\w'=w):=by
 obtain⟨a1,c1,h1,h2⟩:=h;have H:Hid (cn w v l.length a1 c1/\_):=⟨h1,h2⟩
 have HG:=hid hg;obtain⟨rfl,l1,m1,n1,r1⟩:=h1;unfold maxLen at m1;clear h2 n1 r1 hg;go_enter ZF115,Tryz.ntmps115
 go_wp2
 go_loop [8,5] (fun i j=>∃k:Nat,k<=l.length/\i=.int .i64 k) (fun i _=>l.length-(intOf i).toNat)
 case atStart=>exact⟨0,Nat.zero_le _,rfl⟩
 case round=>
  obtain⟨k,j8,rfl⟩:=hrel;by_cases aA:k<l.length
  .obtain⟨⟨blk,off,sp⟩,y,rfl,hy,y0⟩:=H.o.1.elem H.o.2 aA;obtain rfl:sp=none:=y0.1;have g0:=y0.2;simp only at g0;have BA:=hk k y aA hy;have ka:(k:Int)<(l.length:Int):=by omega
   clear y0 hy
   go_wp2_with
    (go_at_call 100
     refine(LF _ _ _ _ _ _ hn HG.o BA).mono ?_;rintro e w' ⟨r,rfl,rfl,rfl⟩)
   go_round
   case rel=>exact⟨k+1,by omega,by go_num⟩
   case measure=>simp[intOf];omega
  .go_wp2
   go_ret;exact⟨rfl,rfl⟩
theorem BT (w:World) (v:Value) (l:List Int) (g n c:Nat) (a:Option Addr) (h:az w v l) (hn:1<=n/\n<=5) (hg:w.cell? ⟨g,2,none⟩=some (.slice a n c)) (hk:oG l n l.length):
 Calls ZP 99 #[v,.func (.func 100) #[] #[.pointer (some ⟨g,0,none⟩)]] w (dB w fun r=>r=false):=by
 go_enter ZF99,Tryz.ntmps99
 go_wp2_with
  (go_at_call 115
   refine(BQ _ _ _ _ _ _ _ h hn hg hk).mono ?_;rintro e w1 ⟨rfl,rfl⟩)
 go_ret;exact dB.mk rfl
theorem pO.P5 {w w1:World} {v0 v1 v2 v3 v4:Value} {t:Nat} (h:Below (w.heap.size+1) (w.alloc (.cells #[v0,v1,v2,v3,v4] t)) w1):pO w1 w.heap.size v0 v1 v2 v3 v4:=
 ⟨boxed h 0,boxed h 1,boxed h 2,boxed h 3,boxed h 4⟩
theorem sw (w:World) (v vl:Value) (b:av) (l:List Int) (hb:aD w v b) (hl:az w vl l) (hp:1<=b.parts.length/\b.parts.length<=5) (hpr:kA b) (fS:bY b l):
 Calls ZP 63 #[v,vl] w (ci w fun s=>s=0):=by
 have HB:=hid hb;have Iw:Hid (bY b l):=fS;have HI:=hid hl;obtain⟨v2,v3,v4,rfl,⟨a2,c2,h2,f2⟩,⟨a3,c3,⟨rfl,_,_,_,_⟩,_⟩,⟨a4,c4,⟨rfl,_,_,_,_⟩,_⟩⟩:=hb;obtain⟨al,cl,EQ,fl⟩:=hl;have H2:Hid (cn w v2 b.parts.length a2 c2/\_):=⟨h2,f2⟩
 have HL:Hid (cn w vl l.length al cl/\_):=⟨EQ,fl⟩
 obtain⟨rfl,l2,m2,n2,r2⟩:=h2;obtain⟨rfl,ll,ml,nl,rl⟩:=EQ;unfold maxLen at m2 ml;clear r2 f2 n2 rl fl nl;have br:((l.length:Int)!=b.places)=false:=by simp[fS.len]
 have HO:=BT (w.alloc (.cells #[.int .i64 b.an,.int .i64 b.places,.slice a2 b.parts.length c2,.slice a3 b.apart.length c3,.slice a4 b.ac.length c4] 79)) _ l w.heap.size b.parts.length c2 a2
  (HI.o.later (Kp.alloc w _)) hp (boxed (Below.refl _ _) 2) fS.range
 clear fS;go_enter ZF63,Tryz.ntmps63
 go_wp2_with
  (go_at_call 99
   refine HO.mono ?_;rintro e w' ⟨r,rfl,rfl,rfl⟩)
 clear HO;go_loopw [20,5,6] (fun i u v w1=>∃k:Nat,k<=l.length/\i=.int .i64 k/\Hid (Below (w.heap.size+1) (w.alloc (.cells #[.int .i64 b.an,.int .i64 b.places,.slice a2 b.parts.length c2,.slice a3 b.apart.length c3,.slice a4 b.ac.length c4] 79)) w1)) (fun i _ _ _=>l.length-(intOf i).toNat)
 case atStart=>exact⟨0,Nat.zero_le _,rfl,Below.refl _ _⟩
 case round=>
  obtain⟨k,hk,rfl,hB⟩:=hrel;have gg:=pO.P5 hB.o;by_cases aA:k<l.length
  .obtain⟨⟨blk,off,sp⟩,x,rfl,hx,x0⟩:=HL.o.1.elem HL.o.2 aA;obtain rfl:sp=none:=x0.1;obtain⟨xn,rfl⟩:=Int.eq_ofNat_of_zero_le (Iw.o.range k x aA hx).1;have hxr:=(Iw.o.range k xn aA hx).2;have Cu:xn<b.parts.length:=by omega
   obtain⟨⟨pb,po,ps⟩,P,rfl,hP,_,_,_,_,_,vf,p5,Dq⟩:=H2.o.1.elem H2.o.2 Cu;obtain rfl:ps=none:=p5.1;have hf:=Dq;obtain⟨af,cf,⟨rfl,_,_,_,_⟩,_⟩:=Dq;have HFA:=Iw.o.fit k _ aA hx
   have su:(k:Int)∈P.fits:=by
    obtain⟨P',P1,hm⟩:=HFA.fits;simp only[Int.toNat_natCast]at P1;rw[hP]at P1;cases P1;exact hm
   have zaR:Hid (0<k->∀y,l[k-1]?=some y->¬Apart b.apart y xn):=HFA.R6;have G0:=fun X:am wr=>X.cell gg.c0;have G1:=fun X:am wr=>X.cell gg.c1;have G2:=fun X:am wr=>X.cell gg.c2;have G3:=fun X:am wr=>X.cell gg.c3;have G4:=fun X:am wr=>X.cell gg.c4;have y0:=(x0.later (Kp.boxed hB.o)).2;have Y5:=fun X:am wr=>X.cell (p5.later (Kp.boxed hB.o)).2;simp only[<-Nat.add_assoc]at y0 Y5;have ka:(k:Int)<(l.length:Int):=by omega
   have hx2:(xn:Int)<(b.parts.length:Int):=by omega
   have hz:Hid (w.heap.size+1<=wr.heap.size):=by have:=hB.o.size;simp at this;exact(by omega:w.heap.size+1<=wr.heap.size)
   clear hx hP p5 gg HFA
   have wS:∀X:am wr,Calls ZP 54 #[.slice af P.fits.length cf,.int .i64 k] X.1 (fun e iU=>e=.returned (.bool true)/\∃Y:am wr,iU=Y.1):=fun X=>
    (ii _ _ _ k ((hf.later (Kp.boxed hB.o)).later X.kp)).mono fun e w' ⟨r,h1,h2,h3⟩=>⟨by rw[h1,h2.2 su],X.same h3⟩
   clear su;by_cases oY:0<k
   .obtain⟨b',z,Ir,Nv,z0⟩:=HL.o.1.elem HL.o.2 (show k-1<l.length by omega);cases Ir;have Z0:=fun X:am wr=>X.cell (z0.later (Kp.boxed hB.o)).2;simp only at Z0;have tO:=zaR.o oY z Nv;have j8:wrap64 ((k:Int)-1)=((k-1:Nat):Int):=by unfold wrap64;omega
    have kc:(0:Int)<(k:Int):=by omega
    have lg:((k-1:Nat):Int)<(l.length:Int):=by omega
    clear z0 Nv x0
    have pQ:∀X:am wr,Calls ZP 101 #[.agg #[.int .i64 b.an,.int .i64 b.places,.slice (some ⟨pb,po,none⟩) b.parts.length c2,.slice a3 b.apart.length c3,.slice a4 b.ac.length c4],.int .i64 z,.int .i64 xn] X.1 (fun e iU=>e=.returned (.bool false)/\∃Y:am wr,iU=Y.1):=fun X=>
     (sv _ _ _ _ _ ((HB.o.later (Kp.boxed hB.o)).later X.kp) hpr).mono fun e w' ⟨⟨r,h1,h2⟩,h3⟩=>⟨by cases r with
       |false=>exact h1
       |true=>exact absurd h2.t tO,X.on h3⟩
    clear tO;go_wp2
    refine aq (by kernel_rfl) (by kernel_rfl) ?_;repeat(go_big_quiet_step (first|(go_at_call 54;exact wS _)|(go_at_call 101;exact pQ _)))
    refine wpQuiet_nil ?_;rintro _ ⟨X,rfl⟩;go_wp2
    go_round
    case rel=>exact⟨k+1,by omega,by go_num,hB.o.trans (X.2.mono hz.o)⟩
    case measure=>simp[intOf];omega
   .have kc:¬(0:Int)<(k:Int):=by omega
    clear x0;go_wp2
    refine aq (by kernel_rfl) (by kernel_rfl) ?_;repeat(go_big_quiet_step (first|(go_at_call 54;exact wS _)))
    refine wpQuiet_nil ?_;rintro _ ⟨X,rfl⟩;go_wp2
    go_round
    case rel=>exact⟨k+1,by omega,by go_num,hB.o.trans (X.2.mono hz.o)⟩
    case measure=>simp[intOf];omega
  .clear gg;go_wp2
   go_ret;exact ci.mk (r:=0) rfl (Below.boxed hB.o)
theorem BU (w:World) (v:Value) (b:av) (hb:aD w v b) (hv:Valid b):Calls ZP 160 #[v] w (ci w fun s=>s=0):=by
 have HB:=hid hb;have HV:Hid (Valid b):=hv;obtain⟨v2,v3,v4,rfl,⟨a2,c2,⟨rfl,_,_,_,_⟩,_⟩,⟨a3,c3,⟨rfl,_,_,_,_⟩,_⟩,⟨a4,c4,h4,f4⟩⟩:=hb;have H4:Hid (cn w v4 b.ac.length a4 c4/\_):=⟨h4,f4⟩
 obtain⟨rfl,l4,m4,n4,r4⟩:=h4;unfold maxLen at m4;clear r4 f4 n4;have hm:=hv.many;have uJ:¬(4:Int)<(b.ac.length:Int):=by omega
 clear hv;go_enter ZF160,Tryz.ntmps160
 go_wp2
 go_loopw [15,4] (fun i u w1=>∃k:Nat,k<=b.ac.length/\i=.int .i64 k/\Hid (Below (w.heap.size+1) (w.alloc (.cells #[.int .i64 b.an,.int .i64 b.places,.slice a2 b.parts.length c2,.slice a3 b.apart.length c3,.slice a4 b.ac.length c4] 79)) w1)) (fun i _ _=>b.ac.length-(intOf i).toNat)
 case atStart=>exact⟨0,Nat.zero_le _,rfl,Below.refl _ _⟩
 case round=>
  obtain⟨k,hk,rfl,hB⟩:=hrel;obtain⟨s0,s1,s2,s3,s4⟩:=pO.P5 hB.o;by_cases aA:k<b.ac.length
  .obtain⟨⟨blk,off,sp⟩,t,rfl,hx,⟨vf,x0,hf⟩,x1,x2⟩:=H4.o.1.elem H4.o.2 aA;obtain rfl:sp=none:=x0.1;have CE:=hf;obtain⟨af,cf,⟨rfl,_,_,_,_⟩,_⟩:=hf;have HT:=HV.o.ac k t aA hx;have Nz:=HT.UA;have HS:Hid (0<=t.lo/\t.lo<=t.hi/\t.hi<=99/\t.hi-t.lo<100):=(by have:=HT.UB;omega:0<=t.lo/\t.lo<=t.hi/\t.hi<=99/\t.hi-t.lo<100)
   have mL:w.heap.size+1<=wr.heap.size:=by have:=hB.o.size;simp at this;omega
   have hz:=hid mL;have s0':∀o,(wr.alloc o).cell? ⟨w.heap.size,0,none⟩=some (.int .i64 b.an):=fun o=>(eL (by show w.heap.size<_;omega) o).trans s0;have s1':∀o,(wr.alloc o).cell? ⟨w.heap.size,1,none⟩=some (.int .i64 b.places):=fun o=>(eL (by show w.heap.size<_;omega) o).trans s1;have s2':∀o,(wr.alloc o).cell? ⟨w.heap.size,2,none⟩=some (.slice a2 b.parts.length c2):=fun o=>(eL (by show w.heap.size<_;omega) o).trans s2;have s3':∀o,(wr.alloc o).cell? ⟨w.heap.size,3,none⟩=some (.slice a3 b.apart.length c3):=fun o=>(eL (by show w.heap.size<_;omega) o).trans s3;have s4':∀o,(wr.alloc o).cell? ⟨w.heap.size,4,none⟩=some (.slice (some ⟨blk,off,none⟩) b.ac.length c4):=fun o=>(eL (by show w.heap.size<_;omega) o).trans s4;have y0:=(x0.later (Kp.boxed hB.o)).2;have y1:=(x1.later (Kp.boxed hB.o)).2;have y2:=(x2.later (Kp.boxed hB.o)).2;simp only[<-Nat.add_assoc]at y0 y1 y2;have ka:(k:Int)<(b.ac.length:Int):=by omega
   have hC:=sw (wr.alloc (.cells #[.slice af t.parts.length cf,.int .i64 t.lo,.int .i64 t.hi] 75)) _ _ _ _ ((HB.o.later (Kp.boxed hB.o)).later (Kp.alloc wr _)) ((CE.later (Kp.boxed hB.o)).later (Kp.alloc wr _)) HV.o.parts.many HV.o.hQ Nz;clear CE x0 x1 x2 hx HT Nz
   go_wp2_with(first
    |(go_at_call 63
      refine hC.mono ?_;rintro e w1 ⟨⟨r,rfl,rfl⟩,bN⟩;have B1:Hid (Below (w.heap.size+1) _ w1):=hB.o.step mL bN;have p1:=eW bN 1;have p2:=eW bN 2;simp only[List.getElem?_toArray,List.getElem?_cons_succ,List.getElem?_cons_zero]at p1 p2)
    |(go_at_call 70;refine(sj _ _ _ _ _ (by omega) _).mono ?_;rintro e w' ⟨r,rfl,hr,rfl⟩;obtain rfl:r=true:=hr.2 HS.o))
   go_round
   case rel=>exact⟨k+1,by omega,by go_num,(Below.alloc B1.o (by have:=B1.o.size;simpa using this) _:Below _ _ _)⟩
   case measure=>simp[intOf];omega
  .go_wp2
   go_ret;exact ci.mk (r:=0) rfl (Below.boxed hB.o)
structure kD (w:World):Prop where
 c0:w.cell? ⟨0,0,none⟩=some (.func (.func 157) #[] #[])
 c1:w.cell? ⟨0,1,none⟩=some (.func (.func 158) #[] #[])
 c2:w.cell? ⟨0,2,none⟩=some (.func (.func 159) #[] #[])
 c3:w.cell? ⟨0,3,none⟩=some (.func (.func 160) #[] #[])
theorem kD.on {w:World} (h:kD w) (X:am w):kD X.1:=⟨X.cell h.c0,X.cell h.c1,X.cell h.c2,X.cell h.c3⟩
theorem kD.later {w w':World} (h:kD w) (k:Below w.heap.size w w'):kD w':=h.on ⟨w',k⟩
section
variable (w:World)
theorem zaS:(Instr.index 133 (.agg #[.func (.func 157) #[] #[],.func (.func 158) #[] #[],.func (.func 159) #[] #[],.func (.func 160) #[] #[]]) (.int .i64 0)).run ZP w=.ok (.func (.func 157) #[] #[]) w:=by
 have u:ZP.underlying 133=some (.array 4 95):=by rw[Tz.under];exact Tryz.underlying133
 have a3:=Tryz.isAgg95;have z3:=Tryz.sizeOf95;simp[Instr.index,run_underlying u,asIntOf,part,go_sem,a3,z3]
theorem zaT:(Instr.index 133 (.agg #[.func (.func 157) #[] #[],.func (.func 158) #[] #[],.func (.func 159) #[] #[],.func (.func 160) #[] #[]]) (.int .i64 1)).run ZP w=.ok (.func (.func 158) #[] #[]) w:=by
 have u:ZP.underlying 133=some (.array 4 95):=by rw[Tz.under];exact Tryz.underlying133
 have a3:=Tryz.isAgg95;have z3:=Tryz.sizeOf95;simp[Instr.index,run_underlying u,asIntOf,part,go_sem,a3,z3]
theorem zaU:(Instr.index 133 (.agg #[.func (.func 157) #[] #[],.func (.func 158) #[] #[],.func (.func 159) #[] #[],.func (.func 160) #[] #[]]) (.int .i64 2)).run ZP w=.ok (.func (.func 159) #[] #[]) w:=by
 have u:ZP.underlying 133=some (.array 4 95):=by rw[Tz.under];exact Tryz.underlying133
 have a3:=Tryz.isAgg95;have z3:=Tryz.sizeOf95;simp[Instr.index,run_underlying u,asIntOf,part,go_sem,a3,z3]
theorem zaV:(Instr.index 133 (.agg #[.func (.func 157) #[] #[],.func (.func 158) #[] #[],.func (.func 159) #[] #[],.func (.func 160) #[] #[]]) (.int .i64 3)).run ZP w=.ok (.func (.func 160) #[] #[]) w:=by
 have u:ZP.underlying 133=some (.array 4 95):=by rw[Tz.under];exact Tryz.underlying133
 have a3:=Tryz.isAgg95;have z3:=Tryz.sizeOf95;simp[Instr.index,run_underlying u,asIntOf,part,go_sem,a3,z3]
end
theorem sx (w:World) (v:Value) (b:av) (hb:aD w v b) (hv:Valid b) (hc:kD w):Calls ZP 47 #[v] w (ci w fun s=>s=0):=by
 have HB:=hid hb;have HV:Hid (Valid b):=hv;obtain⟨v2,v3,v4,rfl,⟨a2,c2,⟨rfl,_,_,_,_⟩,_⟩,⟨a3,c3,⟨rfl,_,_,_,_⟩,_⟩,⟨a4,c4,⟨rfl,_,_,_,_⟩,_⟩⟩:=hb;obtain⟨k0,k1,k2,k3⟩:=hc.later ((Below.refl _ _).alloc (Nat.le_refl _) (.cells #[.int .i64 b.an,.int .i64 b.places,.slice a2 b.parts.length c2,.slice a3 b.apart.length c3,.slice a4 b.ac.length c4] 26));clear hv hc;go_enter ZF47,Tryz.ntmps47
 go_wp2
 go_loopw [7,4,5] (fun i u v w1=>∃k:Int,Hid (k=0\/k=1\/k=2\/k=3\/k=4)/\i=.int .i64 k/\Hid (Below (w.heap.size+1) (w.alloc (.cells #[.int .i64 b.an,.int .i64 b.places,.slice a2 b.parts.length c2,.slice a3 b.apart.length c3,.slice a4 b.ac.length c4] 26)) w1)) (fun i _ _ _=>4-(intOf i).toNat)
 case atStart=>exact⟨0,(.inl rfl:_\/_),rfl,Below.refl _ _⟩
 case round=>
  obtain⟨k,hk,rfl,hB⟩:=hrel;clear k0 k1 k2 k3;obtain⟨s0,s1,s2,s3,s4⟩:=pO.P5 hB.o;have bN:=HB.o.later (Kp.boxed hB.o);have hs:=hB.o.size;simp at hs;rcases hk.o with rfl|rfl|rfl|rfl|rfl
  .have ix:=zaS wr;go_wp2_with(go_at_call 157;refine(E9 _ _ _ bN HV.o).mono ?_;rintro e w1 ⟨⟨r,rfl,rfl⟩,iA⟩)
   go_round
   case rel=>exact⟨1,(.inr (.inl rfl):_\/_),rfl,hB.o.trans (iA.mono hs)⟩
   case measure=>simp[intOf]
  .have ix:=zaT wr;go_wp2_with(go_at_call 158;refine(Fa _ _ _ bN HV.o).mono ?_;rintro e w1 ⟨⟨r,rfl,rfl⟩,iA⟩)
   go_round
   case rel=>exact⟨2,(.inr (.inr (.inl rfl)):_\/_),rfl,hB.o.trans (iA.mono hs)⟩
   case measure=>simp[intOf]
  .have ix:=zaU wr;go_wp2_with(go_at_call 159;refine(Fb _ _ _ bN HV.o).mono ?_;rintro e w1 ⟨⟨r,rfl,rfl⟩,iA⟩)
   go_round
   case rel=>exact⟨3,(.inr (.inr (.inr (.inl rfl))):_\/_),rfl,hB.o.trans (iA.mono hs)⟩
   case measure=>simp[intOf]
  .have ix:=zaV wr;go_wp2_with(go_at_call 160;refine(BU _ _ _ bN HV.o).mono ?_;rintro e w1 ⟨⟨r,rfl,rfl⟩,iA⟩)
   go_round
   case rel=>exact⟨4,(.inr (.inr (.inr (.inr rfl))):_\/_),rfl,hB.o.trans (iA.mono hs)⟩
   case measure=>simp[intOf]
  .go_wp2
   go_ret;exact ci.mk (r:=0) rfl (Below.boxed hB.o)
end Go.Proofs.Cz
