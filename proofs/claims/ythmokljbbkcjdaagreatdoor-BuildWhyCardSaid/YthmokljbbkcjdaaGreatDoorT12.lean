/- A part of the proof that BuildWhy returns true. Conditions: none. -/
import Derived.Test.YthmokljbbkcjdaaGreatDoorT11
import Derived.Laws.IdiomStrings
set_option linter.unusedVariables false
set_option linter.unusedSimpArgs false
section
namespace Go.Proofs.Cz
open Go.RowKit
theorem bytes_conv (w:World) (s:ByteArray):∃cap w',(convert 9 77 (.string s)).run Tz.prog w=.ok (.slice (some ⟨w.heap.size,0,none⟩) s.size cap) w'∧Below w.heap.size w w'∧∀j (hj:j<s.size),w'.cell? ⟨w.heap.size,j,none⟩=some (.int .u8 s[j].toNat):=by
 have u9:Tz.prog.underlying 9=some .string:=by rw[Tz.under];exact Tryz.underlying9
 have u77:Tz.prog.underlying 77=some (.slice 5):=by rw[Tz.under];exact Tryz.underlying77
 have u5:Tz.prog.underlying 5=some (.int .u8):=by rw[Tz.under];exact Tryz.underlying5
 refine⟨_,_,run_bytes_of_string w 9 77 5 s u9 u77 u5,?_,?_⟩
 ·exact Below.alloc (Below.drewN (Below.refl _ _) 1) (Nat.le_refl _) _
 ·intro j hj
  exact(World.cell?_alloc_mark _ _ _ _ _).trans (bytesRow_at s _ j hj)
set_option maxHeartbeats 1000000 in
theorem bIsName_any (w:World) (s:ByteArray) (h:NameOk s):Calls Tz.prog 161 #[.string s] w (RetB w fun r=>r=true):=by
 obtain⟨h1,h2,hN⟩:=h
 have HN:Hid (NameTo s s.size):=hN
 clear hN
 obtain⟨cap,w1,hconv,hb,hc⟩:=bytes_conv w s
 have HB:Hid (Below w.heap.size w w1):=hb
 have HC:Hid (∀j (hj:j<s.size),w1.cell? ⟨w.heap.size,j,none⟩=some (.int .u8 s[j].toNat)):=hc
 clear hb hc
 go_enter Tz.func161,Tz.ntmps161
 go_wp2
 go_loop [8,3,4] (fun i u v=>∃k:Nat,k≤s.size∧i=.int .i64 k) (fun i _ _=>s.size-(intOf i).toNat)
 case atStart=>exact⟨0,Nat.zero_le _,rfl⟩
 case round=>
  obtain⟨k,hk,rfl⟩:=hrel
  by_cases hlt:k<s.size
  ·have y0:=HC.out k hlt
   have hk2:(k:Int)<(s.size:Int):=by omega
   rcases HN.out k hlt hlt with hl|⟨hk0,hd⟩
   ·obtain⟨a1,a2⟩:=hl
    go_wp2
    go_round
    case rel=>exact⟨k+1,by omega,by go_num⟩
    case measure=>simp[intOf];omega
   ·obtain⟨a1,a2⟩:=hd
    have hk3:(0:Int)<(k:Int):=by omega
    have a3:¬(97:Int)≤s[k].toNat:=by omega
    go_wp2
    go_round
    case rel=>exact⟨k+1,by omega,by go_num⟩
    case measure=>simp[intOf];omega
  ·clear hconv
   go_wp2_with(go_at_call 75;refine(inside_b _ _ _ _).mono ?_;rintro e w' ⟨r,rfl,hr,rfl⟩)
   go_ret
   exact RetB.mk (hr.2 (by omega)) HB.out
end Go.Proofs.Cz
end
section
namespace Go.Proofs.Cz
open Go.RowKit
end Go.Proofs.Cz
namespace Go.RowKit
theorem Below.step {B:Nat} {a w w1:World} {o:Obj} (h:Below B a w) (hs:B≤w.heap.size) (k:Below (w.alloc o).heap.size (w.alloc o) w1):Below B a w1:=
 (Below.alloc h hs o).trans (k.mono (by simp;omega))
end Go.RowKit
namespace Go.Proofs.Cz
open Go.RowKit
theorem boxed_on {w w1:World} {cs:Array Value} {t:Nat} (h:Below (w.alloc (.cells cs t)).heap.size (w.alloc (.cells cs t)) w1) (k:Nat):w1.cell? ⟨w.heap.size,k,none⟩=cs[k]?:=boxed h.ofAlloc k
theorem SlAt.take {w:World} {v:Value} {n:Nat} {a:Option Addr} {cap:Nat} (h:SlAt w v n a cap) {k:Nat} (hk:k≤n):SlAt w (.slice a k cap) k a cap:=
 ⟨rfl,Nat.le_trans hk h.le,h.big,h.nil,h.row⟩
theorem PartsAt.take {w:World} {a:Option Addr} {n cap:Nat} {l:List Part} (h:PartsAt w (.slice a n cap) l) {k:Nat} (hk:k≤l.length):PartsAt w (.slice a k cap) (l.take k):=by
 obtain⟨a',cap',h1,h2⟩:=h
 obtain⟨rfl,-,rfl⟩:a=a'∧_∧cap=cap':=by simpa using h1.eq
 have hl:(l.take k).length=k:=by simp;omega
 refine⟨a,cap,by rw[hl];exact h1.take hk,fun b e j x hj=>h2 b e j x ?_⟩
 have hj2:j<k:=by have:=(List.getElem?_eq_some_iff.1 hj).1;omega
 rw[List.getElem?_take]at hj
 simpa [hj2]using hj
theorem PairsAt.take {w:World} {a:Option Addr} {n cap:Nat} {l:List (Int×Int)} (h:PairsAt w (.slice a n cap) l) {k:Nat} (hk:k≤l.length):PairsAt w (.slice a k cap) (l.take k):=by
 obtain⟨a',cap',h1,h2⟩:=h
 obtain⟨rfl,-,rfl⟩:a=a'∧_∧cap=cap':=by simpa using h1.eq
 have hl:(l.take k).length=k:=by simp;omega
 refine⟨a,cap,by rw[hl];exact h1.take hk,fun b e j x hj=>h2 b e j x ?_⟩
 have hj2:j<k:=by have:=(List.getElem?_eq_some_iff.1 hj).1;omega
 rw[List.getElem?_take]at hj
 simpa [hj2]using hj
set_option maxHeartbeats 1000000 in
theorem sameName_any (w:World) (g:Nat) (n1 nm:ByteArray) (a b c d:Int) (vf:Value) (af:Option Addr) (lf cf:Nat) (hvf:vf=.slice af lf cf) (hg:w.cell? ⟨g,0,none⟩=some (.string nm)) (hne:n1≠nm):
 Calls Tz.prog 163 #[.agg #[.string n1,.int .i64 a,.int .i64 b,.int .i64 c,.int .i64 d,vf],.pointer (some ⟨g,0,none⟩)] w (RetB w fun r=>r=false):=by
 subst hvf
 have hg':=(Kp.alloc w (.cells #[.string n1,.int .i64 a,.int .i64 b,.int .i64 c,.int .i64 d,.slice af lf cf] 34))
 have hg2:(w.alloc (.cells #[.string n1,.int .i64 a,.int .i64 b,.int .i64 c,.int .i64 d,.slice af lf cf] 34)).cell? ⟨g,0,none⟩=some (.string nm):=
  (After.cell ⟨_,(Below.refl _ _).alloc (Nat.le_refl _) _⟩ hg:_)
 have hd:(n1.toList==nm.toList)=false:=by
  cases hh:(n1.toList==nm.toList)with
  |false=>rfl
  |true=>exact absurd (name_eq hh) hne
 clear hg'
 go_enter Tz.func163,Tz.ntmps163
 go_wp2
 go_ret
 exact RetB.mk rfl ((Below.refl _ _).alloc (Nat.le_refl _) _)
set_option maxHeartbeats 4000000 in
theorem idxPart_any (w:World) (v:Value) (l:List Part) (g:Nat) (nm:ByteArray) (h:PartsAt w v l) (hg:w.cell? ⟨g,0,none⟩=some (.string nm)) (hne:∀x∈l,x.name≠nm):
 Calls Tz.prog 164 #[v,.func (.func 163) #[] #[.pointer (some ⟨g,0,none⟩)]] w (RetI w fun r=>r=-1):=by
 obtain⟨a,c,h1,h2⟩:=h
 have H:Hid (SlAt w v l.length a c∧_):=⟨h1,h2⟩
 have HG:Hid (w.cell? ⟨g,0,none⟩=some (.string nm)):=hg
 obtain⟨rfl,l1,m1,n1,r1⟩:=h1
 unfold maxLen at m1
 clear h2 n1 r1 hg
 go_enter Tz.func164,Tz.ntmps164
 go_wp2
 go_loopw [8,5] (fun i j w1=>∃k:Nat,k≤l.length∧i=.int .i64 k∧Hid (Below w.heap.size w w1)) (fun i _ _=>l.length-(intOf i).toNat)
 case atStart=>exact⟨0,Nat.zero_le _,rfl,Below.refl _ _⟩
 case round=>
  obtain⟨k,hk,rfl,hB⟩:=hrel
  by_cases hlt:k<l.length
  ·obtain⟨⟨blk,off,sp⟩,x,rfl,hx,x0,x1,x2,x3,x4,vf,x5,x6⟩:=H.out.1.elem H.out.2 hlt
   obtain rfl:sp=none:=x0.1
   obtain⟨af,cf,hf,_⟩:=x6
   obtain⟨rfl,lf,mf,_,_⟩:=hf
   have y0:=(x0.later (Kp.of hB.out)).2
   have y1:=(x1.later (Kp.of hB.out)).2
   have y2:=(x2.later (Kp.of hB.out)).2
   have y3:=(x3.later (Kp.of hB.out)).2
   have y4:=(x4.later (Kp.of hB.out)).2
   have y5:=(x5.later (Kp.of hB.out)).2
   simp only[←Nat.add_assoc]at y0 y1 y2 y3 y4 y5
   have hk2:(k:Int)<(l.length:Int):=by omega
   have hgr:=After.cell ⟨wr,hB.out⟩ HG.out
   have hxn:=hne x (List.mem_of_getElem? hx)
   clear x0 x1 x2 x3 x4 x5 hx
   go_wp2_with
    (go_at_call 163
     refine(sameName_any _ _ _ _ _ _ _ _ _ _ _ _ rfl hgr hxn).mono ?_
     rintro e w1 ⟨⟨r,rfl,rfl⟩,hb1⟩)
   go_round
   case rel=>exact⟨k+1,by omega,by go_num,hB.out.trans (hb1.mono hB.out.size)⟩
   case measure=>simp[intOf];omega
  ·go_wp2
   go_ret
   exact RetI.mk (r:=-1) rfl hB.out
set_option maxHeartbeats 1000000 in
theorem hasPart_any (w:World) (v:Value) (l:List Part) (g:Nat) (nm:ByteArray) (h:PartsAt w v l) (hg:w.cell? ⟨g,0,none⟩=some (.string nm)) (hne:∀x∈l,x.name≠nm):
 Calls Tz.prog 162 #[v,.func (.func 163) #[] #[.pointer (some ⟨g,0,none⟩)]] w (RetB w fun r=>r=false):=by
 go_enter Tz.func162,Tz.ntmps162
 go_wp2_with
  (go_at_call 164
   refine(idxPart_any _ _ _ _ _ h hg hne).mono ?_
   rintro e w1 ⟨⟨r,rfl,rfl⟩,hb1⟩)
 go_ret
 exact RetB.mk rfl hb1
end Go.Proofs.Cz
end
section
namespace Go.Proofs.Cz
open Go.RowKit
theorem Pure1B.eq {w:World} {P:Bool→Prop} {v:Value} {r:Bool} (h:P r) (e:v=.bool r):Pure1B w P (.returned v) w:=by subst e;exact .mk h
set_option maxHeartbeats 1000000 in
theorem index_any (w:World) (v:Value) (l:List Int) (x:Int) (h:IntsAt w v l):Calls Tz.prog 95 #[v,.int .i64 x] w (fun e w'=>∃r,e=.returned (.int .i64 r)∧(0≤r↔x∈l)∧w'=w):=by
 obtain⟨a,c,h1,h2⟩:=h
 have H:Hid (SlAt w v l.length a c∧_):=⟨h1,h2⟩
 obtain⟨rfl,l1,m1,n1,r1⟩:=h1
 unfold maxLen at m1
 clear h2 n1 r1
 go_enter Tz.func95,Tz.ntmps95
 go_wp2
 go_loop [8,5] (fun i j=>∃k:Nat,k≤l.length∧Hid (NoneOf l x k)∧i=.int .i64 k) (fun i _=>l.length-(intOf i).toNat)
 case atStart=>exact⟨0,Nat.zero_le _,NoneOf.zero l x,rfl⟩
 case round=>
  obtain⟨k,hk,hN,rfl⟩:=hrel
  by_cases hlt:k<l.length
  ·obtain⟨⟨blk,off,sp⟩,y,rfl,hy,y0⟩:=H.out.1.elem H.out.2 hlt
   obtain rfl:sp=none:=y0.1
   have g0:=y0.2
   simp only at g0
   have HY:Hid (l[k]?=some y):=hy
   have hk2:(k:Int)<(l.length:Int):=by omega
   clear y0 hy
   by_cases e:x=y
   ·subst e
    go_wp2
    go_ret
    exact⟨k,rfl,⟨fun _=>List.mem_of_getElem? HY.out,fun _=>by omega⟩,rfl⟩
   ·have e':Hid (y≠x):=fun h=>e h.symm
    go_wp2
    go_round
    case rel=>exact⟨k+1,by omega,hN.out.succ HY.out e'.out,by go_num⟩
    case measure=>simp[intOf];omega
  ·have HN:Hid (x∉l):=(by have e:k=l.length:=by omega
                          subst e;exact hN.out.all)
   go_wp2
   go_ret
   exact⟨-1,rfl,⟨fun h=>by omega,fun h=>absurd h HN.out⟩,rfl⟩
set_option maxHeartbeats 1000000 in
theorem contains_any (w:World) (v:Value) (l:List Int) (x:Int) (h:IntsAt w v l):Calls Tz.prog 54 #[v,.int .i64 x] w (Pure1B w fun r=>Tr r (x∈l)):=by
 go_enter Tz.func54,Tz.ntmps54
 go_wp2_with
  (go_at_call 95
   refine(index_any _ _ _ x h).mono ?_
   rintro e w1 ⟨r,rfl,hr,rfl⟩
   by_cases h0:0≤r)
 ·have hx:Hid (x∈l):=hr.1 h0
  go_ret
  exact Pure1B.eq (r:=true) (Tr.yes hx.out) (by simp[hx.out])
 ·have hx:Hid (¬x∈l):=fun h=>by have:=hr.2 h;omega
  go_ret
  exact Pure1B.eq (r:=false) (Tr.no hx.out) (by simp[hx.out])
set_option maxHeartbeats 4000000 in
theorem indexPair_any (w:World) (v:Value) (l:List (Int×Int)) (p q:Int) (h:PairsAt w v l):
 Calls Tz.prog 133 #[v,.agg #[.int .i64 p,.int .i64 q]] w (RetI w fun r=>0≤r↔(p,q)∈l):=by
 obtain⟨a,c,h1,h2⟩:=h
 have H:Hid (SlAt w v l.length a c∧_):=⟨h1,h2⟩
 obtain⟨rfl,l1,m1,n1,r1⟩:=h1
 unfold maxLen at m1
 clear h2 n1 r1
 go_enter Tz.func133,Tz.ntmps133
 go_wp2
 go_loopw [8,5] (fun i j w1=>∃k:Nat,k≤l.length∧Hid (NoPair l (p,q) k)∧i=.int .i64 k∧∃n,w1=(w.alloc (.cells #[.int .i64 p,.int .i64 q] 119)).drewN n) (fun i _ _=>l.length-(intOf i).toNat)
 case atStart=>exact⟨0,Nat.zero_le _,NoPair.zero l _,rfl,0,rfl⟩
 case round=>
  obtain⟨k,hk,hN,rfl,n0,rfl⟩:=hrel
  by_cases hlt:k<l.length
  ·obtain⟨⟨blk,off,sp⟩,⟨ya,yb⟩,rfl,hy,y0,y1⟩:=H.out.1.elem H.out.2 hlt
   obtain rfl:sp=none:=y0.1
   have g0:=(y0.later (Kp.alloc w (.cells #[.int .i64 p,.int .i64 q] 119))).2
   have g1:=(y1.later (Kp.alloc w (.cells #[.int .i64 p,.int .i64 q] 119))).2
   simp only[←Nat.add_assoc]at g0 g1
   have HY:Hid (l[k]?=some (ya,yb)):=hy
   have hk2:(k:Int)<(l.length:Int):=by omega
   clear y0 y1 hy
   by_cases e1:p=ya
   ·subst e1
    by_cases e2:q=yb
    ·subst e2
     go_wp2
     go_quiet (fail)
     go_wp2
     go_ret
     exact RetI.mk (r:=k) ⟨fun _=>List.mem_of_getElem? HY.out,fun _=>by omega⟩ (Below.drewN (Below.drewN (Below.alloc (Below.refl _ _) (Nat.le_refl _) _) _) _)
    ·have hne:Hid ((p,yb)≠(p,q)):=(fun h=>e2 (by cases h;rfl):(p,yb)≠(p,q))
     go_wp2
     go_quiet (fail)
     go_wp2
     go_round
     case rel=>exact⟨k+1,by omega,hN.out.succ HY.out hne.out,by go_num,_,rfl⟩
     case measure=>simp[intOf];omega
   ·have hne:Hid ((ya,yb)≠(p,q)):=(fun h=>e1 (by cases h;rfl):(ya,yb)≠(p,q))
    go_wp2
    go_quiet (fail)
    go_wp2
    go_round
    case rel=>exact⟨k+1,by omega,hN.out.succ HY.out hne.out,by go_num,_,rfl⟩
    case measure=>simp[intOf];omega
  ·have HN:Hid ((p,q)∉l):=(by
    have e:k=l.length:=by omega
    subst e
    intro hm
    obtain⟨j,hj,hj2⟩:=List.getElem_of_mem hm
    exact hN.out j _ hj (List.getElem?_eq_getElem hj) hj2)
   go_wp2
   go_ret
   exact RetI.mk (r:=-1) ⟨fun h=>by omega,fun h=>absurd h HN.out⟩ (Below.drewN (Below.alloc (Below.refl _ _) (Nat.le_refl _) _) _)
set_option maxHeartbeats 1000000 in
theorem containsPair_any (w:World) (v:Value) (l:List (Int×Int)) (p q:Int) (h:PairsAt w v l):
 Calls Tz.prog 116 #[v,.agg #[.int .i64 p,.int .i64 q]] w (RetB w fun r=>Tr r ((p,q)∈l)):=by
 go_enter Tz.func116,Tz.ntmps116
 have h':=h.later (Kp.alloc w (.cells #[.int .i64 p,.int .i64 q] 119))
 go_wp2_with
  (go_at_call 133
   refine(indexPair_any _ _ _ p q h').mono ?_
   rintro e w1 ⟨⟨r,rfl,hr⟩,hb1⟩
   by_cases h0:0≤r)
 ·have hx:Hid ((p,q)∈l):=hr.1 h0
  go_ret
  exact RetB.eq (r:=true) (Tr.yes hx.out) (Below.step (Below.refl _ _) (Nat.le_refl _) hb1) (by simp[hx.out])
 ·have hx:Hid (¬(p,q)∈l):=fun h=>by have:=hr.2 h;omega
  go_ret
  exact RetB.eq (r:=false) (Tr.no hx.out) (Below.step (Below.refl _ _) (Nat.le_refl _) hb1) (by simp[hx.out])
end Go.Proofs.Cz
end
section
namespace Go.Proofs.Cz
open Go.RowKit
set_option maxHeartbeats 1000000 in
theorem order_any (w:World) (v:Value) (b:Book) (hb:BookAt w v b) (h:Valid b):Calls Tz.prog 157 #[v] w (RetI w fun r=>r=0):=by
 obtain⟨v2,v3,v4,rfl,⟨a2,c2,⟨rfl,_,_,_,_⟩,_⟩,⟨a3,c3,⟨rfl,_,_,_,_⟩,_⟩,⟨a4,c4,⟨rfl,_,_,_,_⟩,_⟩⟩:=hb
 obtain⟨h1,h2,_,_,_,_⟩:=h
 have d1:(decide (1≤b.beat)&&decide (b.beat≤99))=true:=by simpa using h1
 have d2:(decide (1≤b.places)&&decide (b.places≤4))=true:=by simpa using h2
 clear h1 h2
 go_enter Tz.func157,Tz.ntmps157
 go_wp2_with(go_at_call 75;refine(inside_any _ _ _ _).mono ?_;(first|rw[d1]|rw[d2]);rintro e w' ⟨rfl,rfl⟩)
 go_ret
 exact RetI.mk (r:=0) rfl ((Below.refl _ _).alloc (Nat.le_refl _) _)
set_option maxHeartbeats 4000000 in
theorem parts_any (w:World) (v:Value) (b:Book) (hb:BookAt w v b) (h:Valid b):Calls Tz.prog 158 #[v] w (RetI w fun r=>r=0):=by
 obtain⟨v2,v3,v4,rfl,hPA0,h3,h4⟩:=hb
 have HPA:Hid (PartsAt w v2 b.parts):=hPA0
 obtain⟨a2,c2,h2,f2⟩:=hPA0
 have H2:Hid (SlAt w v2 b.parts.length a2 c2∧_):=⟨h2,f2⟩
 have HV:Hid (Valid b):=h
 obtain⟨rfl,l2,m2,n2,r2⟩:=h2
 obtain⟨a3,c3,⟨rfl,_,_,_,_⟩,_⟩:=h3
 obtain⟨a4,c4,⟨rfl,_,_,_,_⟩,_⟩:=h4
 unfold maxLen at m2
 clear r2 f2 n2
 have hm:=h.parts.many
 have hpl:=h.places
 have d1:(decide ((1:Int)≤(b.parts.length:Int))&&decide ((b.parts.length:Int)≤5))=true:=by simp;omega
 clear h
 go_enter Tz.func158,Tz.ntmps158
 go_wp2_with(go_at_call 75;refine(inside_any _ _ _ _).mono ?_;rw[d1];rintro e w' ⟨rfl,rfl⟩)
 go_loopw [17,3,4] (fun i u v w1=>∃k:Nat,k≤b.parts.length∧i=.int .i64 k∧Hid (Below (w.heap.size+1) (w.alloc (.cells #[.int .i64 b.beat,.int .i64 b.places,.slice a2 b.parts.length c2,.slice a3 b.apart.length c3,.slice a4 b.trials.length c4] 79)) w1)) (fun i _ _ _=>b.parts.length-(intOf i).toNat)
 case atStart=>exact⟨0,Nat.zero_le _,rfl,Below.refl _ _⟩
 case round=>
  obtain⟨k,hk,rfl,hB⟩:=hrel
  have g1:=boxed hB.out 1
  have g2:=boxed hB.out 2
  simp only[List.getElem?_toArray,List.getElem?_cons_succ,List.getElem?_cons_zero]at g1 g2
  by_cases hlt:k<b.parts.length
  ·obtain⟨⟨blk,off,sp⟩,x,rfl,hx,x0,x1,x2,x3,x4,vf,x5,x6⟩:=H2.out.1.elem H2.out.2 hlt
   obtain rfl:sp=none:=x0.1
   have x7:=x6.later (Kp.boxed hB.out)
   obtain⟨af,cf,hf,_⟩:=x6
   obtain⟨rfl,lf,mf,_,_⟩:=hf
   unfold maxLen at mf
   have HX:Hid (b.parts[k]?=some x∧IntsAt wr (.slice af x.fits.length cf) x.fits):=⟨hx,x7⟩
   have HP:Hid (PartOk b.places x∧∀i y,i<k→b.parts[i]?=some y→y.name≠x.name):=HV.out.parts.all k x hlt hx
   have hnm:=HP.out.1.name
   have y0:=(x0.later (Kp.boxed hB.out)).2
   have y1:=(x1.later (Kp.boxed hB.out)).2
   have y2:=(x2.later (Kp.boxed hB.out)).2
   have y3:=(x3.later (Kp.boxed hB.out)).2
   have y4:=(x4.later (Kp.boxed hB.out)).2
   have y5:=(x5.later (Kp.boxed hB.out)).2
   simp only[←Nat.add_assoc]at y0 y1 y2 y3 y4 y5
   have hz1:w.heap.size+1≤wr.heap.size:=by have:=hB.out.size;simp at this;omega
   have hz2:blk<w.heap.size:=x0.lt
   have hk2:(k:Int)<(b.parts.length:Int):=by omega
   clear x0 x1 x2 x3 x4 x5 x7 hx
   have hcost:=HP.out.1.cost
   have hstock:=HP.out.1.stock
   have htime:=HP.out.1.time
   have hwide:=HP.out.1.wide
   have e1:(decide (0≤x.cost)&&decide (x.cost≤99))=true:=by simpa using hcost
   have e2:(decide (0≤x.stock)&&decide (x.stock≤3))=true:=by simpa using hstock
   have hspan:x.lo≥0∧x.lo≤x.hi∧x.hi≤20∧x.hi-x.lo<4:=by omega
   have HS:Hid (0≤x.lo∧x.lo≤x.hi∧x.hi≤20∧x.hi-x.lo<4):=hspan
   clear hcost hstock htime hwide hspan
   go_wp2_with(first
    |(go_at_call 161
      refine(bIsName_any _ _ hnm).mono ?_
      rintro e w1 ⟨⟨r,rfl,rfl⟩,hb1⟩
      have B1:Hid (Below (w.heap.size+1) _ w1):=hB.out.step hz1 hb1
      have p0:=boxed_on hb1 0
      have p1:=boxed_on hb1 1
      have p2:=boxed_on hb1 2
      have p3:=boxed_on hb1 3
      have p4:=boxed_on hb1 4
      have p5:=boxed_on hb1 5
      have q1:=boxed B1.out 1
      have q2:=boxed B1.out 2
      simp only[List.getElem?_toArray,List.getElem?_cons_succ,List.getElem?_cons_zero]at p0 p1 p2 p3 p4 p5 q1 q2)
    |(go_at_call 162
      refine(hasPart_any _ _ (b.parts.take k) _ x.name ((HPA.out.later (Kp.boxed B1.out)).take hk) p0 (fun y hy=>?_)).mono ?_
      ·obtain⟨j,hj,rfl⟩:=List.getElem_of_mem hy
       rw[List.getElem_take]
       have hj2:j<k:=by simp at hj;omega
       exact HP.out.2 j _ hj2 (List.getElem?_eq_getElem _)
      rintro e w2 ⟨⟨r,rfl,rfl⟩,hb2⟩
      have B2:Hid (Below (w.heap.size+1) _ w2):=B1.out.trans (hb2.mono (by have:=B1.out.size;simpa using this))
      have s1:=After.cell ⟨w2,hb2⟩ p1
      have s2:=After.cell ⟨w2,hb2⟩ p2
      have s3:=After.cell ⟨w2,hb2⟩ p3
      have s4:=After.cell ⟨w2,hb2⟩ p4
      have s5:=After.cell ⟨w2,hb2⟩ p5
      have t1:=After.cell ⟨w2,hb2⟩ q1
      simp only at s1 s2 s3 s4 s5 t1
      have s5a:∀o,(w2.alloc o).cell? ⟨wr.heap.size,5,none⟩=_:=fun o=>After.cell ⟨w2.alloc o,(Below.refl _ _).alloc (Nat.le_refl _) o⟩ s5
      have t1a:∀o,(w2.alloc o).cell? ⟨w.heap.size,1,none⟩=_:=fun o=>After.cell ⟨w2.alloc o,(Below.refl _ _).alloc (Nat.le_refl _) o⟩ t1
      have HF:Hid (∀o,IntsAt (w2.alloc o) (.slice af x.fits.length cf) x.fits):=fun o=>(HX.out.2.later (Kp.trans (Kp.alloc wr _) (Kp.of hb1) (by simp))).later (Kp.trans (Kp.of hb2) (Kp.alloc w2 o) hb2.size)
      clear p0 p1 p2 p3 p4 p5 q1 q2)
    |(go_at_call 75;refine(inside_any _ _ _ _).mono ?_;(first|rw[e1]|rw[e2]);rintro e w' ⟨rfl,rfl⟩)
    |(go_at_call 70;refine(isSpan_any _ _ _ _ _ (by omega) _).mono ?_;rintro e w' ⟨r,rfl,hr,rfl⟩;obtain rfl:r=true:=hr.2 HS.out))
   have hw4:wrap64 (b.places-1)=b.places-1:=by unfold wrap64;omega
   go_loop [51,5,6] (fun i u v=>∃m:Nat,m≤x.fits.length∧i=.int .i64 m) (fun i _ _=>x.fits.length-(intOf i).toNat)
   case atStart=>exact⟨0,Nat.zero_le _,rfl⟩
   case round=>
    obtain⟨m,hm2,rfl⟩:=hrel
    by_cases hmk:m<x.fits.length
    ·obtain⟨a',cap',hf1,hf2⟩:=HF.out (.cells #[.int .i64 x.lo,.int .i64 x.hi] 31)
     have he:=hf1.eq
     simp only[Value.slice.injEq]at he
     obtain⟨rfl,-,rfl⟩:=he
     obtain⟨⟨fb,fo,fs⟩,y,rfl,hy,y0⟩:=hf1.elem hf2 hmk
     obtain rfl:fs=none:=y0.1
     have z0:=y0.2
     simp only at z0
     have hr0:=HP.out.1.rise m y hmk hy
     have e3:(decide (0≤y)&&decide (y≤b.places-1))=true:=by simpa using And.intro hr0.1 hr0.2.1
     have hmk2:(m:Int)<(x.fits.length:Int):=by omega
     obtain⟨-,-,hrp⟩:=hr0
     by_cases hm0:0<m
     ·obtain⟨b',z,hb',hz',z1⟩:=hf1.elem hf2 (show m-1<x.fits.length by omega)
      cases hb'
      have z1:=z1.2
      simp only at z1
      have hzy:¬y≤z:=by have:=hrp z hm0 hz';omega
      have hk1:wrap64 ((m:Int)-1)=((m-1:Nat):Int):=by unfold wrap64;omega
      have hk3:(0:Int)<(m:Int):=by omega
      have hk4:((m-1:Nat):Int)<(x.fits.length:Int):=by omega
      clear hz' hrp hf1 hf2 y0 hy
      go_wp2_with(go_at_call 75;refine(inside_any _ _ _ _).mono ?_;rw[e3];rintro e w' ⟨rfl,rfl⟩)
      go_round
      case rel=>exact⟨m+1,by omega,by go_num⟩
      case measure=>simp[intOf];omega
     ·have hk3:¬(0:Int)<(m:Int):=by omega
      clear hrp hf1 hf2 y0 hy
      go_wp2_with(go_at_call 75;refine(inside_any _ _ _ _).mono ?_;rw[e3];rintro e w' ⟨rfl,rfl⟩)
      go_round
      case rel=>exact⟨m+1,by omega,by go_num⟩
      case measure=>simp[intOf];omega
    ·go_wp2
     go_round
     case rel=>exact⟨k+1,by omega,by go_num,(Below.alloc B2.out (by have:=B2.out.size;simpa using this) _:Below _ _ _)⟩
     case measure=>simp[intOf];omega
  ·go_wp2
   go_ret
   exact RetI.mk (r:=0) rfl (Below.boxed hB.out)
end Go.Proofs.Cz
end
section
namespace Go.Proofs.Cz
open Go.RowKit
set_option maxHeartbeats 4000000 in
theorem pairs_any (w:World) (v:Value) (b:Book) (hb:BookAt w v b) (h:Valid b):Calls Tz.prog 159 #[v] w (RetI w fun r=>r=0):=by
 obtain⟨v2,v3,v4,rfl,h2,hPA0,h4⟩:=hb
 have HPA:Hid (PairsAt w v3 b.apart):=hPA0
 obtain⟨a3,c3,h3,f3⟩:=hPA0
 have H3:Hid (SlAt w v3 b.apart.length a3 c3∧_):=⟨h3,f3⟩
 have HV:Hid (Valid b):=h
 obtain⟨rfl,l3,m3,n3,r3⟩:=h3
 obtain⟨a2,c2,⟨rfl,_,m2,_,_⟩,_⟩:=h2
 obtain⟨a4,c4,⟨rfl,_,_,_,_⟩,_⟩:=h4
 unfold maxLen at m3
 clear r3 f3 n3 m2
 have hm:=h.pairs.many
 have hpm:=h.parts.many
 have hw1:wrap64 ((b.parts.length:Int)-1)=b.parts.length-1:=by unfold wrap64;omega
 have hmm:¬(5:Int)<(b.apart.length:Int):=by omega
 clear h
 go_enter Tz.func159,Tz.ntmps159
 go_wp2
 go_loopw [14,3,4] (fun i u v w1=>∃k:Nat,k≤b.apart.length∧i=.int .i64 k∧Hid (Below (w.heap.size+1) (w.alloc (.cells #[.int .i64 b.beat,.int .i64 b.places,.slice a2 b.parts.length c2,.slice a3 b.apart.length c3,.slice a4 b.trials.length c4] 79)) w1)) (fun i _ _ _=>b.apart.length-(intOf i).toNat)
 case atStart=>exact⟨0,Nat.zero_le _,rfl,Below.refl _ _⟩
 case round=>
  obtain⟨k,hk,rfl,hB⟩:=hrel
  have g2:=boxed hB.out 2
  have g3:=boxed hB.out 3
  simp only[List.getElem?_toArray,List.getElem?_cons_succ,List.getElem?_cons_zero]at g2 g3
  by_cases hlt:k<b.apart.length
  ·obtain⟨⟨blk,off,sp⟩,⟨xa,xb⟩,rfl,hx,x0,x1⟩:=H3.out.1.elem H3.out.2 hlt
   obtain rfl:sp=none:=x0.1
   have HX:Hid (b.apart[k]?=some (xa,xb)):=hx
   have HP:=HV.out.pairs.all k _ hlt hx
   have e1:(decide (0≤xa)&&decide (xa≤(b.parts.length:Int)-1))=true:=by simpa using HP.1.one
   have e2:(decide (0≤xb)&&decide (xb≤(b.parts.length:Int)-1))=true:=by simpa using HP.1.two
   have e3:¬xb<xa:=by have:=HP.1.le;simp only at this;omega
   have hno:Hid ((xa,xb)∉b.apart.take k):=(by
    intro hm
    obtain⟨j,hj,hj2⟩:=List.getElem_of_mem hm
    rw[List.getElem_take]at hj2
    exact HP.2 j _ (by simp at hj;omega) (List.getElem?_eq_getElem _) hj2)
   have y0:=(x0.later (Kp.boxed hB.out)).2
   have y1:=(x1.later (Kp.boxed hB.out)).2
   simp only[←Nat.add_assoc]at y0 y1
   have hz1:w.heap.size+1≤wr.heap.size:=by have:=hB.out.size;simp at this;omega
   have hz2:blk<w.heap.size:=x0.lt
   have hk2:(k:Int)<(b.apart.length:Int):=by omega
   have hk3:(k:Int)≤(c3:Int):=by omega
   clear x0 x1 hx HP
   have g2':∀o,(wr.alloc o).cell? ⟨w.heap.size,2,none⟩=some (.slice a2 b.parts.length c2):=fun o=>(cell_on (by show w.heap.size<_;omega) o).trans g2
   have G3:∀X:After (wr.alloc (.cells #[.int .i64 xa,.int .i64 xb] 119)),X.1.cell? ⟨w.heap.size,3,none⟩=some (.slice (some ⟨blk,off,none⟩) b.apart.length c3):=fun X=>
    X.cell ((cell_on (by show w.heap.size<_;omega) _).trans g3)
   have T0:∀X:After (wr.alloc (.cells #[.int .i64 xa,.int .i64 xb] 119)),X.1.cell? ⟨wr.heap.size,0,none⟩=some (.int .i64 xa):=fun X=>boxed_on X.2 0
   have T1:∀X:After (wr.alloc (.cells #[.int .i64 xa,.int .i64 xb] 119)),X.1.cell? ⟨wr.heap.size,1,none⟩=some (.int .i64 xb):=fun X=>boxed_on X.2 1
   have conC:∀X:After (wr.alloc (.cells #[.int .i64 xa,.int .i64 xb] 119)),Calls Tz.prog 116 #[.slice (some ⟨blk,off,none⟩) k c3,.agg #[.int .i64 xa,.int .i64 xb]] X.1 (fun e w''=>e=.returned (.bool false)∧∃Y:After (wr.alloc (.cells #[.int .i64 xa,.int .i64 xb] 119)),w''=Y.1):=fun X=>
    (containsPair_any _ _ _ _ _ (((HPA.out.later (Kp.boxed hB.out)).later (Kp.trans (Kp.alloc wr _) X.kp (by simp))).take hk)).mono fun e w' ⟨⟨r,h1,h2⟩,h3⟩=>⟨by cases r with
      |false=>exact h1
      |true=>exact absurd h2.t hno.out,X.on h3⟩
   have hz:Hid (w.heap.size+1≤wr.heap.size):=hz1
   go_wp2_with(go_at_call 75;refine(inside_any _ _ _ _).mono ?_;(first|rw[e1]|rw[e2]);rintro e w' ⟨rfl,rfl⟩)
   refine wp_region_after (by kernel_rfl) (by kernel_rfl) ?_
   repeat(go_big_quiet_step (first|(go_at_call 116;exact conC _)))
   refine wpQuiet_nil ?_
   rintro _ ⟨X,rfl⟩
   go_wp2
   go_round
   case rel=>exact⟨k+1,by omega,by go_num,hB.out.step hz.out X.2⟩
   case measure=>simp[intOf];omega
  ·go_wp2
   go_ret
   exact RetI.mk (r:=0) rfl (Below.boxed hB.out)
end Go.Proofs.Cz
end
section
namespace Go.Proofs.Cz
open Go.RowKit
theorem apart_iff {b:Book} (h:PairsOk b) (p q:Int):(min p q,max p q)∈b.apart↔Apart b.apart p q:=by
 constructor
 ·intro hm
  refine⟨_,hm,?_⟩
  by_cases e:p≤q
  ·left;simp only;omega
  ·right;simp only;omega
 ·rintro⟨⟨x,y⟩,hm,hx⟩
  obtain⟨j,hj,hj2⟩:=List.getElem_of_mem hm
  have hle:=(h.all j _ hj (by rw[List.getElem?_eq_getElem hj,hj2])).1.le
  have:(min p q,max p q)=(x,y):=by
   rcases hx with⟨rfl,rfl⟩|⟨rfl,rfl⟩<;>simp only at*<;>ext<;>simp only<;>omega
  rw[this];exact hm
set_option maxHeartbeats 4000000 in
theorem bApart_any (w:World) (v:Value) (b:Book) (p q:Int) (hb:BookAt w v b) (h:PairsOk b):
 Calls Tz.prog 101 #[v,.int .i64 p,.int .i64 q] w (RetB w fun r=>Tr r (Apart b.apart p q)):=by
 obtain⟨v2,v3,v4,rfl,h2,hPA,h4⟩:=hb
 obtain⟨a2,c2,⟨rfl,_,_,_,_⟩,_⟩:=h2
 obtain⟨a4,c4,⟨rfl,_,_,_,_⟩,_⟩:=h4
 have hP0:=hPA
 obtain⟨a3,c3,⟨rfl,_,_,_,_⟩,_⟩:=hP0
 have hPA:=hPA.later (Kp.alloc w (.cells #[.int .i64 b.beat,.int .i64 b.places,.slice a2 b.parts.length c2,.slice a3 b.apart.length c3,.slice a4 b.trials.length c4] 79))
 by_cases hqp:q<p
 ·have hC:=containsPair_any _ _ _ q p hPA
  have hI:(q,p)∈b.apart↔Apart b.apart p q:=by
   have:=apart_iff h p q
   rwa [show min p q=q by omega,show max p q=p by omega]at this
  have hqp2:¬p<q:=by omega
  go_enter Tz.func101,Tz.ntmps101
  go_wp2_with(go_at_call 116;refine hC.mono ?_;rintro e w1 ⟨⟨r,rfl,hr⟩,hb1⟩;cases r)
  ·go_ret
   exact RetB.mk (Tr.no fun ha=>hr.f (hI.2 ha)) (Below.step (Below.refl _ _) (Nat.le_refl _) hb1)
  ·go_ret
   exact RetB.mk (Tr.yes (hI.1 hr.t)) (Below.step (Below.refl _ _) (Nat.le_refl _) hb1)
 ·have hI:(p,q)∈b.apart↔Apart b.apart p q:=by
   have:=apart_iff h p q
   rwa [show min p q=p by omega,show max p q=q by omega]at this
  by_cases hpq:p<q
  ·have hC:=containsPair_any _ _ _ p q hPA
   go_enter Tz.func101,Tz.ntmps101
   go_wp2_with(go_at_call 116;refine hC.mono ?_;rintro e w1 ⟨⟨r,rfl,hr⟩,hb1⟩;cases r)
   ·go_ret
    exact RetB.mk (Tr.no fun ha=>hr.f (hI.2 ha)) (Below.step (Below.refl _ _) (Nat.le_refl _) hb1)
   ·go_ret
    exact RetB.mk (Tr.yes (hI.1 hr.t)) (Below.step (Below.refl _ _) (Nat.le_refl _) hb1)
  ·obtain rfl:p=q:=by omega
   have hC:=containsPair_any _ _ _ p p hPA
   go_enter Tz.func101,Tz.ntmps101
   go_wp2_with(go_at_call 116;refine hC.mono ?_;rintro e w1 ⟨⟨r,rfl,hr⟩,hb1⟩;cases r)
   ·go_ret
    exact RetB.mk (Tr.no fun ha=>hr.f (hI.2 ha)) (Below.step (Below.refl _ _) (Nat.le_refl _) hb1)
   ·go_ret
    exact RetB.mk (Tr.yes (hI.1 hr.t)) (Below.step (Below.refl _ _) (Nat.le_refl _) hb1)
set_option maxHeartbeats 1000000 in
theorem out_any (w:World) (g n c:Nat) (a:Option Addr) (k:Int) (hn:1≤n∧n≤5) (hg:w.cell? ⟨g,2,none⟩=some (.slice a n c)) (hk:0≤k∧k≤(n:Int)-1):
 Calls Tz.prog 100 #[.int .i64 k,.pointer (some ⟨g,0,none⟩)] w (Pure1B w fun r=>r=false):=by
 have hw1:wrap64 ((n:Int)-1)=n-1:=by unfold wrap64;omega
 have e1:(decide (0≤k)&&decide (k≤(n:Int)-1))=true:=by simpa using hk
 clear hk
 go_enter Tz.func100,Tz.ntmps100
 go_wp2_with(go_at_call 75;refine(inside_any _ _ _ _).mono ?_;rw[e1];rintro e w' ⟨rfl,rfl⟩)
 go_ret
 exact Pure1B.mk rfl
set_option maxHeartbeats 1000000 in
theorem idxOut_any (w:World) (v:Value) (l:List Int) (g n c:Nat) (a:Option Addr) (h:IntsAt w v l) (hn:1≤n∧n≤5) (hg:w.cell? ⟨g,2,none⟩=some (.slice a n c)) (hk:InTo l n l.length):
 Calls Tz.prog 115 #[v,.func (.func 100) #[] #[.pointer (some ⟨g,0,none⟩)]] w (fun e w'=>e=.returned (.int .i64 (-1))∧w'=w):=by
 obtain⟨a1,c1,h1,h2⟩:=h
 have H:Hid (SlAt w v l.length a1 c1∧_):=⟨h1,h2⟩
 have HG:Hid (w.cell? ⟨g,2,none⟩=some (.slice a n c)):=hg
 obtain⟨rfl,l1,m1,n1,r1⟩:=h1
 unfold maxLen at m1
 clear h2 n1 r1 hg
 go_enter Tz.func115,Tz.ntmps115
 go_wp2
 go_loop [8,5] (fun i j=>∃k:Nat,k≤l.length∧i=.int .i64 k) (fun i _=>l.length-(intOf i).toNat)
 case atStart=>exact⟨0,Nat.zero_le _,rfl⟩
 case round=>
  obtain⟨k,hk1,rfl⟩:=hrel
  by_cases hlt:k<l.length
  ·obtain⟨⟨blk,off,sp⟩,y,rfl,hy,y0⟩:=H.out.1.elem H.out.2 hlt
   obtain rfl:sp=none:=y0.1
   have g0:=y0.2
   simp only at g0
   have hin:=hk k y hlt hy
   have hk2:(k:Int)<(l.length:Int):=by omega
   clear y0 hy
   go_wp2_with
    (go_at_call 100
     refine(out_any _ _ _ _ _ _ hn HG.out hin).mono ?_
     rintro e w' ⟨r,rfl,rfl,rfl⟩)
   go_round
   case rel=>exact⟨k+1,by omega,by go_num⟩
   case measure=>simp[intOf];omega
  ·go_wp2
   go_ret
   exact⟨rfl,rfl⟩
set_option maxHeartbeats 1000000 in
theorem anyOut_any (w:World) (v:Value) (l:List Int) (g n c:Nat) (a:Option Addr) (h:IntsAt w v l) (hn:1≤n∧n≤5) (hg:w.cell? ⟨g,2,none⟩=some (.slice a n c)) (hk:InTo l n l.length):
 Calls Tz.prog 99 #[v,.func (.func 100) #[] #[.pointer (some ⟨g,0,none⟩)]] w (Pure1B w fun r=>r=false):=by
 go_enter Tz.func99,Tz.ntmps99
 go_wp2_with
  (go_at_call 115
   refine(idxOut_any _ _ _ _ _ _ _ h hn hg hk).mono ?_
   rintro e w1 ⟨rfl,rfl⟩)
 go_ret
 exact Pure1B.mk rfl
end Go.Proofs.Cz
end
section
namespace Go.Proofs.Cz
open Go.RowKit
theorem Box5.of79 {w w1:World} {v0 v1 v2 v3 v4:Value} {t:Nat} (h:Below (w.heap.size+1) (w.alloc (.cells #[v0,v1,v2,v3,v4] t)) w1):Box5 w1 w.heap.size v0 v1 v2 v3 v4:=
 ⟨boxed h 0,boxed h 1,boxed h 2,boxed h 3,boxed h 4⟩
set_option maxHeartbeats 4000000 in
theorem bell_any (w:World) (v vl:Value) (b:Book) (l:List Int) (hb:BookAt w v b) (hl:IntsAt w vl l) (hp:1≤b.parts.length∧b.parts.length≤5) (hpr:PairsOk b) (hok:MachOk b l):
 Calls Tz.prog 63 #[v,vl] w (RetI w fun s=>s=0):=by
 have HB:Hid (BookAt w v b):=hb
 have HOK:Hid (MachOk b l):=hok
 have HI:Hid (IntsAt w vl l):=hl
 obtain⟨v2,v3,v4,rfl,⟨a2,c2,h2,f2⟩,⟨a3,c3,⟨rfl,_,_,_,_⟩,_⟩,⟨a4,c4,⟨rfl,_,_,_,_⟩,_⟩⟩:=hb
 obtain⟨al,cl,hl2,fl⟩:=hl
 have H2:Hid (SlAt w v2 b.parts.length a2 c2∧_):=⟨h2,f2⟩
 have HL:Hid (SlAt w vl l.length al cl∧_):=⟨hl2,fl⟩
 obtain⟨rfl,l2,m2,n2,r2⟩:=h2
 obtain⟨rfl,ll,ml,nl,rl⟩:=hl2
 unfold maxLen at m2 ml
 clear r2 f2 n2 rl fl nl
 have hne:((l.length:Int)!=b.places)=false:=by simp[hok.len]
 have HO:=anyOut_any (w.alloc (.cells #[.int .i64 b.beat,.int .i64 b.places,.slice a2 b.parts.length c2,.slice a3 b.apart.length c3,.slice a4 b.trials.length c4] 79)) _ l w.heap.size b.parts.length c2 a2
  (HI.out.later (Kp.alloc w _)) hp (boxed (Below.refl _ _) 2) hok.range
 clear hok
 go_enter Tz.func63,Tz.ntmps63
 go_wp2_with
  (go_at_call 99
   refine HO.mono ?_
   rintro e w' ⟨r,rfl,rfl,rfl⟩)
 clear HO
 go_loopw [20,5,6] (fun i u v w1=>∃k:Nat,k≤l.length∧i=.int .i64 k∧Hid (Below (w.heap.size+1) (w.alloc (.cells #[.int .i64 b.beat,.int .i64 b.places,.slice a2 b.parts.length c2,.slice a3 b.apart.length c3,.slice a4 b.trials.length c4] 79)) w1)) (fun i _ _ _=>l.length-(intOf i).toNat)
 case atStart=>exact⟨0,Nat.zero_le _,rfl,Below.refl _ _⟩
 case round=>
  obtain⟨k,hk,rfl,hB⟩:=hrel
  have gg:=Box5.of79 hB.out
  by_cases hlt:k<l.length
  ·obtain⟨⟨blk,off,sp⟩,x,rfl,hx,x0⟩:=HL.out.1.elem HL.out.2 hlt
   obtain rfl:sp=none:=x0.1
   obtain⟨xn,rfl⟩:=Int.eq_ofNat_of_zero_le (HOK.out.range k x hlt hx).1
   have hxr:=(HOK.out.range k xn hlt hx).2
   have hxn:xn<b.parts.length:=by omega
   obtain⟨⟨pb,po,ps⟩,P,rfl,hP,_,_,_,_,_,vf,p5,hvf⟩:=H2.out.1.elem H2.out.2 hxn
   obtain rfl:ps=none:=p5.1
   have hf:=hvf
   obtain⟨af,cf,⟨rfl,_,_,_,_⟩,_⟩:=hvf
   have HFA:=HOK.out.fit k _ hlt hx
   have hfit:(k:Int)∈P.fits:=by
    obtain⟨P',hP',hm⟩:=HFA.fits
    simp only[Int.toNat_natCast]at hP'
    rw[hP]at hP'
    cases hP'
    exact hm
   have HFar:Hid (0<k→∀y,l[k-1]?=some y→¬Apart b.apart y xn):=HFA.far
   have G0:=fun X:After wr=>X.cell gg.c0
   have G1:=fun X:After wr=>X.cell gg.c1
   have G2:=fun X:After wr=>X.cell gg.c2
   have G3:=fun X:After wr=>X.cell gg.c3
   have G4:=fun X:After wr=>X.cell gg.c4
   have y0:=(x0.later (Kp.boxed hB.out)).2
   have Y5:=fun X:After wr=>X.cell (p5.later (Kp.boxed hB.out)).2
   simp only[←Nat.add_assoc]at y0 Y5
   have hk2:(k:Int)<(l.length:Int):=by omega
   have hx2:(xn:Int)<(b.parts.length:Int):=by omega
   have hz:Hid (w.heap.size+1≤wr.heap.size):=by have:=hB.out.size;simp at this;exact(by omega:w.heap.size+1≤wr.heap.size)
   clear hx hP p5 gg HFA
   have hasC:∀X:After wr,Calls Tz.prog 54 #[.slice af P.fits.length cf,.int .i64 k] X.1 (fun e w''=>e=.returned (.bool true)∧∃Y:After wr,w''=Y.1):=fun X=>
    (contains_any _ _ _ k ((hf.later (Kp.boxed hB.out)).later X.kp)).mono fun e w' ⟨r,h1,h2,h3⟩=>⟨by rw[h1,h2.2 hfit],X.same h3⟩
   clear hfit
   by_cases hk0:0<k
   ·obtain⟨b',z,hb',hz',z0⟩:=HL.out.1.elem HL.out.2 (show k-1<l.length by omega)
    cases hb'
    have Z0:=fun X:After wr=>X.cell (z0.later (Kp.boxed hB.out)).2
    simp only at Z0
    have hap:=HFar.out hk0 z hz'
    have hk1:wrap64 ((k:Int)-1)=((k-1:Nat):Int):=by unfold wrap64;omega
    have hk3:(0:Int)<(k:Int):=by omega
    have hk4:((k-1:Nat):Int)<(l.length:Int):=by omega
    clear z0 hz' x0
    have farC:∀X:After wr,Calls Tz.prog 101 #[.agg #[.int .i64 b.beat,.int .i64 b.places,.slice (some ⟨pb,po,none⟩) b.parts.length c2,.slice a3 b.apart.length c3,.slice a4 b.trials.length c4],.int .i64 z,.int .i64 xn] X.1 (fun e w''=>e=.returned (.bool false)∧∃Y:After wr,w''=Y.1):=fun X=>
     (bApart_any _ _ _ _ _ ((HB.out.later (Kp.boxed hB.out)).later X.kp) hpr).mono fun e w' ⟨⟨r,h1,h2⟩,h3⟩=>⟨by cases r with
       |false=>exact h1
       |true=>exact absurd h2.t hap,X.on h3⟩
    clear hap
    go_wp2
    refine wp_region_after (by kernel_rfl) (by kernel_rfl) ?_
    repeat(go_big_quiet_step (first|(go_at_call 54;exact hasC _)|(go_at_call 101;exact farC _)))
    refine wpQuiet_nil ?_
    rintro _ ⟨X,rfl⟩
    go_wp2
    go_round
    case rel=>exact⟨k+1,by omega,by go_num,hB.out.trans (X.2.mono hz.out)⟩
    case measure=>simp[intOf];omega
   ·have hk3:¬(0:Int)<(k:Int):=by omega
    clear x0
    go_wp2
    refine wp_region_after (by kernel_rfl) (by kernel_rfl) ?_
    repeat(go_big_quiet_step (first|(go_at_call 54;exact hasC _)))
    refine wpQuiet_nil ?_
    rintro _ ⟨X,rfl⟩
    go_wp2
    go_round
    case rel=>exact⟨k+1,by omega,by go_num,hB.out.trans (X.2.mono hz.out)⟩
    case measure=>simp[intOf];omega
  ·clear gg
   go_wp2
   go_ret
   exact RetI.mk (r:=0) rfl (Below.boxed hB.out)
end Go.Proofs.Cz
end
section
namespace Go.Proofs.Cz
open Go.RowKit
set_option maxHeartbeats 4000000 in
theorem trials_any (w:World) (v:Value) (b:Book) (hb:BookAt w v b) (hv:Valid b):Calls Tz.prog 160 #[v] w (RetI w fun s=>s=0):=by
 have HB:Hid (BookAt w v b):=hb
 have HV:Hid (Valid b):=hv
 obtain⟨v2,v3,v4,rfl,⟨a2,c2,⟨rfl,_,_,_,_⟩,_⟩,⟨a3,c3,⟨rfl,_,_,_,_⟩,_⟩,⟨a4,c4,h4,f4⟩⟩:=hb
 have H4:Hid (SlAt w v4 b.trials.length a4 c4∧_):=⟨h4,f4⟩
 obtain⟨rfl,l4,m4,n4,r4⟩:=h4
 unfold maxLen at m4
 clear r4 f4 n4
 have hm:=hv.many
 have hmm:¬(4:Int)<(b.trials.length:Int):=by omega
 clear hv
 go_enter Tz.func160,Tz.ntmps160
 go_wp2
 go_loopw [15,4] (fun i u w1=>∃k:Nat,k≤b.trials.length∧i=.int .i64 k∧Hid (Below (w.heap.size+1) (w.alloc (.cells #[.int .i64 b.beat,.int .i64 b.places,.slice a2 b.parts.length c2,.slice a3 b.apart.length c3,.slice a4 b.trials.length c4] 79)) w1)) (fun i _ _=>b.trials.length-(intOf i).toNat)
 case atStart=>exact⟨0,Nat.zero_le _,rfl,Below.refl _ _⟩
 case round=>
  obtain⟨k,hk,rfl,hB⟩:=hrel
  obtain⟨s0,s1,s2,s3,s4⟩:=Box5.of79 hB.out
  by_cases hlt:k<b.trials.length
  ·obtain⟨⟨blk,off,sp⟩,t,rfl,hx,⟨vf,x0,hf⟩,x1,x2⟩:=H4.out.1.elem H4.out.2 hlt
   obtain rfl:sp=none:=x0.1
   have hf':=hf
   obtain⟨af,cf,⟨rfl,_,_,_,_⟩,_⟩:=hf
   have HT:=HV.out.trials k t hlt hx
   have hmach:=HT.mach
   have HS:Hid (0≤t.lo∧t.lo≤t.hi∧t.hi≤99∧t.hi-t.lo<100):=(by have:=HT.took;omega:0≤t.lo∧t.lo≤t.hi∧t.hi≤99∧t.hi-t.lo<100)
   have hz1:w.heap.size+1≤wr.heap.size:=by have:=hB.out.size;simp at this;omega
   have hz:Hid (w.heap.size+1≤wr.heap.size):=hz1
   have s0':∀o,(wr.alloc o).cell? ⟨w.heap.size,0,none⟩=some (.int .i64 b.beat):=fun o=>(cell_on (by show w.heap.size<_;omega) o).trans s0
   have s1':∀o,(wr.alloc o).cell? ⟨w.heap.size,1,none⟩=some (.int .i64 b.places):=fun o=>(cell_on (by show w.heap.size<_;omega) o).trans s1
   have s2':∀o,(wr.alloc o).cell? ⟨w.heap.size,2,none⟩=some (.slice a2 b.parts.length c2):=fun o=>(cell_on (by show w.heap.size<_;omega) o).trans s2
   have s3':∀o,(wr.alloc o).cell? ⟨w.heap.size,3,none⟩=some (.slice a3 b.apart.length c3):=fun o=>(cell_on (by show w.heap.size<_;omega) o).trans s3
   have s4':∀o,(wr.alloc o).cell? ⟨w.heap.size,4,none⟩=some (.slice (some ⟨blk,off,none⟩) b.trials.length c4):=fun o=>(cell_on (by show w.heap.size<_;omega) o).trans s4
   have y0:=(x0.later (Kp.boxed hB.out)).2
   have y1:=(x1.later (Kp.boxed hB.out)).2
   have y2:=(x2.later (Kp.boxed hB.out)).2
   simp only[←Nat.add_assoc]at y0 y1 y2
   have hk2:(k:Int)<(b.trials.length:Int):=by omega
   have hC:=bell_any (wr.alloc (.cells #[.slice af t.parts.length cf,.int .i64 t.lo,.int .i64 t.hi] 75)) _ _ _ _ ((HB.out.later (Kp.boxed hB.out)).later (Kp.alloc wr _)) ((hf'.later (Kp.boxed hB.out)).later (Kp.alloc wr _)) HV.out.parts.many HV.out.pairs hmach
   clear hf' x0 x1 x2 hx HT hmach
   go_wp2_with(first
    |(go_at_call 63
      refine hC.mono ?_
      rintro e w1 ⟨⟨r,rfl,rfl⟩,hb1⟩
      have B1:Hid (Below (w.heap.size+1) _ w1):=hB.out.step hz1 hb1
      have p1:=boxed_on hb1 1
      have p2:=boxed_on hb1 2
      simp only[List.getElem?_toArray,List.getElem?_cons_succ,List.getElem?_cons_zero]at p1 p2)
    |(go_at_call 70;refine(isSpan_any _ _ _ _ _ (by omega) _).mono ?_;rintro e w' ⟨r,rfl,hr,rfl⟩;obtain rfl:r=true:=hr.2 HS.out))
   go_round
   case rel=>exact⟨k+1,by omega,by go_num,(Below.alloc B1.out (by have:=B1.out.size;simpa using this) _:Below _ _ _)⟩
   case measure=>simp[intOf];omega
  ·go_wp2
   go_ret
   exact RetI.mk (r:=0) rfl (Below.boxed hB.out)
end Go.Proofs.Cz
end
section
namespace Go.Proofs.Cz
open Go.RowKit
structure Chk (w:World):Prop where
 c0:w.cell? ⟨0,0,none⟩=some (.func (.func 157) #[] #[])
 c1:w.cell? ⟨0,1,none⟩=some (.func (.func 158) #[] #[])
 c2:w.cell? ⟨0,2,none⟩=some (.func (.func 159) #[] #[])
 c3:w.cell? ⟨0,3,none⟩=some (.func (.func 160) #[] #[])
theorem Chk.on {w:World} (h:Chk w) (X:After w):Chk X.1:=⟨X.cell h.c0,X.cell h.c1,X.cell h.c2,X.cell h.c3⟩
theorem Chk.later {w w':World} (h:Chk w) (k:Below w.heap.size w w'):Chk w':=h.on ⟨w',k⟩
section
variable (w:World)
theorem idx0:(Instr.index 133 (.agg #[.func (.func 157) #[] #[],.func (.func 158) #[] #[],.func (.func 159) #[] #[],.func (.func 160) #[] #[]]) (.int .i64 0)).run Tz.prog w=.ok (.func (.func 157) #[] #[]) w:=by
 have u:Tz.prog.underlying 133=some (.array 4 95):=by rw[Tz.under];exact Tryz.underlying133
 have a3:=Tryz.isAgg95
 have z3:=Tryz.sizeOf95
 simp[Instr.index,run_underlying u,asIntOf,part,go_sem,a3,z3]
theorem idx1:(Instr.index 133 (.agg #[.func (.func 157) #[] #[],.func (.func 158) #[] #[],.func (.func 159) #[] #[],.func (.func 160) #[] #[]]) (.int .i64 1)).run Tz.prog w=.ok (.func (.func 158) #[] #[]) w:=by
 have u:Tz.prog.underlying 133=some (.array 4 95):=by rw[Tz.under];exact Tryz.underlying133
 have a3:=Tryz.isAgg95
 have z3:=Tryz.sizeOf95
 simp[Instr.index,run_underlying u,asIntOf,part,go_sem,a3,z3]
theorem idx2:(Instr.index 133 (.agg #[.func (.func 157) #[] #[],.func (.func 158) #[] #[],.func (.func 159) #[] #[],.func (.func 160) #[] #[]]) (.int .i64 2)).run Tz.prog w=.ok (.func (.func 159) #[] #[]) w:=by
 have u:Tz.prog.underlying 133=some (.array 4 95):=by rw[Tz.under];exact Tryz.underlying133
 have a3:=Tryz.isAgg95
 have z3:=Tryz.sizeOf95
 simp[Instr.index,run_underlying u,asIntOf,part,go_sem,a3,z3]
theorem idx3:(Instr.index 133 (.agg #[.func (.func 157) #[] #[],.func (.func 158) #[] #[],.func (.func 159) #[] #[],.func (.func 160) #[] #[]]) (.int .i64 3)).run Tz.prog w=.ok (.func (.func 160) #[] #[]) w:=by
 have u:Tz.prog.underlying 133=some (.array 4 95):=by rw[Tz.under];exact Tryz.underlying133
 have a3:=Tryz.isAgg95
 have z3:=Tryz.sizeOf95
 simp[Instr.index,run_underlying u,asIntOf,part,go_sem,a3,z3]
end
set_option maxHeartbeats 4000000 in
set_option maxRecDepth 20000 in
theorem bCheck_any (w:World) (v:Value) (b:Book) (hb:BookAt w v b) (hv:Valid b) (hc:Chk w):Calls Tz.prog 47 #[v] w (RetI w fun s=>s=0):=by
 have HB:Hid (BookAt w v b):=hb
 have HV:Hid (Valid b):=hv
 obtain⟨v2,v3,v4,rfl,⟨a2,c2,⟨rfl,_,_,_,_⟩,_⟩,⟨a3,c3,⟨rfl,_,_,_,_⟩,_⟩,⟨a4,c4,⟨rfl,_,_,_,_⟩,_⟩⟩:=hb
 obtain⟨k0,k1,k2,k3⟩:=hc.later ((Below.refl _ _).alloc (Nat.le_refl _) (.cells #[.int .i64 b.beat,.int .i64 b.places,.slice a2 b.parts.length c2,.slice a3 b.apart.length c3,.slice a4 b.trials.length c4] 26))
 clear hv hc
 go_enter Tz.func47,Tz.ntmps47
 go_wp2
 go_loopw [7,4,5] (fun i u v w1=>∃k:Int,Hid (k=0∨k=1∨k=2∨k=3∨k=4)∧i=.int .i64 k∧Hid (Below (w.heap.size+1) (w.alloc (.cells #[.int .i64 b.beat,.int .i64 b.places,.slice a2 b.parts.length c2,.slice a3 b.apart.length c3,.slice a4 b.trials.length c4] 26)) w1)) (fun i _ _ _=>4-(intOf i).toNat)
 case atStart=>exact⟨0,(.inl rfl:_∨_),rfl,Below.refl _ _⟩
 case round=>
  obtain⟨k,hk,rfl,hB⟩:=hrel
  clear k0 k1 k2 k3
  obtain⟨s0,s1,s2,s3,s4⟩:=Box5.of79 hB.out
  have hb1:=HB.out.later (Kp.boxed hB.out)
  have hs:=hB.out.size
  simp at hs
  rcases hk.out with rfl|rfl|rfl|rfl|rfl
  ·have ix:=idx0 wr
   go_wp2_with(go_at_call 157;refine(order_any _ _ _ hb1 HV.out).mono ?_;rintro e w1 ⟨⟨r,rfl,rfl⟩,hb2⟩)
   go_round
   case rel=>exact⟨1,(.inr (.inl rfl):_∨_),rfl,hB.out.trans (hb2.mono hs)⟩
   case measure=>simp[intOf]
  ·have ix:=idx1 wr
   go_wp2_with(go_at_call 158;refine(parts_any _ _ _ hb1 HV.out).mono ?_;rintro e w1 ⟨⟨r,rfl,rfl⟩,hb2⟩)
   go_round
   case rel=>exact⟨2,(.inr (.inr (.inl rfl)):_∨_),rfl,hB.out.trans (hb2.mono hs)⟩
   case measure=>simp[intOf]
  ·have ix:=idx2 wr
   go_wp2_with(go_at_call 159;refine(pairs_any _ _ _ hb1 HV.out).mono ?_;rintro e w1 ⟨⟨r,rfl,rfl⟩,hb2⟩)
   go_round
   case rel=>exact⟨3,(.inr (.inr (.inr (.inl rfl))):_∨_),rfl,hB.out.trans (hb2.mono hs)⟩
   case measure=>simp[intOf]
  ·have ix:=idx3 wr
   go_wp2_with(go_at_call 160;refine(trials_any _ _ _ hb1 HV.out).mono ?_;rintro e w1 ⟨⟨r,rfl,rfl⟩,hb2⟩)
   go_round
   case rel=>exact⟨4,(.inr (.inr (.inr (.inr rfl))):_∨_),rfl,hB.out.trans (hb2.mono hs)⟩
   case measure=>simp[intOf]
  ·go_wp2
   go_ret
   exact RetI.mk (r:=0) rfl (Below.boxed hB.out)
end Go.Proofs.Cz
end
