/- A part of the proof that BuildWhy returns true. Conditions: none. -/
import Derived.Test.YthmokljbbkcjdaaGreatDoorT14
import Derived.Test.YthmokljbbkcjdaaGreatDoorT15
import Derived.Test.YthmokljbbkcjdaaGreatDoorT16
import Derived.WalkMore
import Derived.Deep.LoopGhost
set_option linter.unusedVariables false
set_option linter.unusedSimpArgs false
section
namespace Go.Proofs.Cz
open Go.RowKit
end Go.Proofs.Cz
end
section
namespace Go.Proofs.Cz
open Go.RowKit
theorem mask_of (b:Book) (hv:Valid b):∃top full:Nat,(2≤top∧top≤16)∧full<16∧Hid ((full:Int)=(top:Int)-1)∧Hid (emptyOf b full=true↔machinesOf b=[])∧
 IntKind.i64.wrap (2^b.places.toNat)=(top:Int)∧wrap64 (2^b.places.toNat)=(top:Int):=by
 have hpl:=hv.places
 obtain⟨n,hn⟩:∃n,b.places.toNat=n:=⟨_,rfl⟩
 have hn4:n=1∨n=2∨n=3∨n=4:=by omega
 have hE:emptyOf b (2^n-1)=true↔machinesOf b=[]:=by
  rw[←hn]
  unfold emptyOf
  rw[decide_eq_true_iff]
  unfold fillOf machinesOf
  exact Iff.rfl
 rw[hn]
 rcases hn4 with rfl|rfl|rfl|rfl
 ·exact⟨2,1,by omega,by omega,(by omega:_=_),hE,rfl,by unfold wrap64;rfl⟩
 ·exact⟨4,3,by omega,by omega,(by omega:_=_),hE,rfl,by unfold wrap64;rfl⟩
 ·exact⟨8,7,by omega,by omega,(by omega:_=_),hE,rfl,by unfold wrap64;rfl⟩
 ·exact⟨16,15,by omega,by omega,(by omega:_=_),hE,rfl,by unfold wrap64;rfl⟩
end Go.Proofs.Cz
end
section
namespace Go.Proofs.Cz
open Go.RowKit
def lexLt:List Int→List Int→Bool
 |_,[]=>false
 | [],_::_=>true
 |x::a,y::b=>decide (x<y)||(decide (x=y)&&lexLt a b)
def smallerL (a b:List Int):Bool:=decide (a.length<b.length)||(decide (a.length=b.length)&&lexLt a b)
def SameTo (a b:List Int) (k:Nat):Prop:=∀j,j<k→a[j]?=b[j]?
theorem SameTo.zero (a b:List Int):SameTo a b 0:=fun j h=>by omega
theorem SameTo.succ {a b:List Int} {k:Nat} {x:Int} (h:SameTo a b k) (ha:a[k]?=some x) (hb:b[k]?=some x):SameTo a b (k+1):=fun j hj=>by
 by_cases e:j=k
 ·subst e;rw[ha,hb]
 ·exact h j (by omega)
theorem SameTo.tail {x y:Int} {a b:List Int} {k:Nat} (h:SameTo (x::a) (y::b) (k+1)):x=y∧SameTo a b k:=
 ⟨by simpa using h 0 (by omega),fun j hj=>by simpa using h (j+1) (by omega)⟩
theorem lex_diff:∀{a b:List Int} {k:Nat} {x y:Int},SameTo a b k→a[k]?=some x→b[k]?=some y→x≠y→lexLt a b=decide (x<y)
 |u::a,v::b,0,x,y,_,ha,hb,hne=>by
  simp at ha hb
  subst ha hb
  simp[lexLt,hne]
 |u::a,v::b,k+1,x,y,h,ha,hb,hne=>by
  obtain⟨rfl,h2⟩:=h.tail
  have:=lex_diff h2 (by simpa using ha) (by simpa using hb) hne
  simp[lexLt,this]
 | [],_,_,_,_,_,ha,_,_=>by simp at ha
 |_::_,[],_,_,_,_,_,hb,_=>by simp at hb
theorem lex_long:∀{a b:List Int} {k:Nat},SameTo a b k→b.length≤k→lexLt a b=false
 |_,[],_,_,_=>by simp[lexLt]
 | [],v::b,k,h,hb=>by
   have h1:k≠0:=by intro e;subst e;simp at hb
   have:=h 0 (by omega)
   simp at this
 |u::a,v::b,0,_,hb=>by simp at hb
 |u::a,v::b,k+1,h,hb=>by
  obtain⟨rfl,h2⟩:=h.tail
  have:=lex_long h2 (by simpa using hb)
  simp[lexLt,this]
theorem lex_end:∀{a b:List Int} {k:Nat},SameTo a b k→k=a.length→lexLt a b=decide (a.length<b.length)
 | [],[],_,_,_=>by simp[lexLt]
 | [],v::b,_,_,_=>by simp[lexLt]
 |u::a,[],k,h,e=>by simp[lexLt]
 |u::a,v::b,0,_,e=>by simp at e
 |u::a,v::b,k+1,h,e=>by
  obtain⟨rfl,h2⟩:=h.tail
  have:=lex_end h2 (by simpa using e)
  simp[lexLt,this]
theorem compareX_any (w:World) (x y:Int):Calls Tz.prog 112 #[.int .i64 x,.int .i64 y] w (Pure1 w (.int .i64 (if x<y then-1 else if y<x then 1 else 0))):=by
 by_cases h1:x<y
 ·go_enter Tz.func112,Tz.ntmps112
  go_wp2_with(go_at_call 130;refine(isNaN_any _ _).mono ?_;rintro e w' ⟨rfl,rfl⟩)
  all_goals(go_ret;exact Pure1.of _ (by simp[h1]))
 ·by_cases h2:y<x
  ·go_enter Tz.func112,Tz.ntmps112
   go_wp2_with(go_at_call 130;refine(isNaN_any _ _).mono ?_;rintro e w' ⟨rfl,rfl⟩)
   all_goals(go_ret;exact Pure1.of _ (by simp[h1,h2]))
  ·go_enter Tz.func112,Tz.ntmps112
   go_wp2_with(go_at_call 130;refine(isNaN_any _ _).mono ?_;rintro e w' ⟨rfl,rfl⟩)
   all_goals(go_ret;exact Pure1.of _ (by simp[h1,h2]))
def Pure1I (w:World) (P:Int→Prop) (e:Ending) (w':World):Prop:=∃r,e=.returned (.int .i64 r)∧P r∧w'=w
set_option maxHeartbeats 4000000 in
theorem compareLX_any (w:World) (v1 v2:Value) (l1 l2:List Int) (h1:IntsAt w v1 l1) (h2:IntsAt w v2 l2):Calls Tz.prog 93 #[v1,v2] w (Pure1I w fun r=>0≤r↔lexLt l1 l2=false):=by
 obtain⟨a1,c1,h1,e1⟩:=h1
 obtain⟨a2,c2,h2,e2⟩:=h2
 have H1:Hid (SlAt w v1 l1.length a1 c1∧_):=⟨h1,e1⟩
 have H2:Hid (SlAt w v2 l2.length a2 c2∧_):=⟨h2,e2⟩
 obtain⟨rfl,k1,m1,n1,r1⟩:=h1
 obtain⟨rfl,k2,m2,n2,r2⟩:=h2
 unfold maxLen at m1 m2
 clear e1 e2 n1 r1 n2 r2
 go_enter Tz.func93,Tz.ntmps93
 go_wp2
 go_loop [11,5,6,7,8] (fun i _ _ _ _=>∃k:Nat,k≤l1.length∧i=.int .i64 k∧Hid (SameTo l1 l2 k)) (fun i _ _ _ _=>l1.length-(intOf i).toNat)
 case atStart=>exact⟨0,Nat.zero_le _,rfl,SameTo.zero _ _⟩
 case round=>
  obtain⟨k,hk,rfl,hS⟩:=hrel
  by_cases hlt:k<l1.length
  ·obtain⟨⟨blk,off,sp⟩,y,rfl,hy,y0⟩:=H1.out.1.elem H1.out.2 hlt
   obtain rfl:sp=none:=y0.1
   have g0:=y0.2
   have HY:Hid (l1[k]?=some y):=hy
   simp only at g0
   clear y0 hy
   by_cases hlt2:k<l2.length
   ·obtain⟨⟨blk2,off2,sp2⟩,y2,rfl,hy2,y1⟩:=H2.out.1.elem H2.out.2 hlt2
    obtain rfl:sp2=none:=y1.1
    have g1:=y1.2
    have HY2:Hid (l2[k]?=some y2):=hy2
    simp only at g1
    clear y1 hy2
    rcases(show y<y2∨y2<y∨y=y2 by omega)with hc|hc|hc
    ·have hne:¬y=y2:=by omega
     have hcx:=compareX_any
     go_wp2_with(go_at_call 112;refine(compareX_any _ y y2).mono ?_;rw[if_pos hc];rintro e w' ⟨rfl,rfl⟩)
     go_ret
     exact⟨-1,rfl,⟨fun h=>absurd h (by decide),fun h=>by rw[lex_diff hS.out HY.out HY2.out hne]at h;simp at h;omega⟩,rfl⟩
    ·have hne:¬y=y2:=by omega
     have hn2:¬y<y2:=by omega
     go_wp2_with(go_at_call 112;refine(compareX_any _ y y2).mono ?_;rw[if_neg hn2,if_pos hc];rintro e w' ⟨rfl,rfl⟩)
     go_ret
     exact⟨1,rfl,⟨fun _=>by rw[lex_diff hS.out HY.out HY2.out hne];simpa using(by omega:y2≤y),fun _=>by decide⟩,rfl⟩
    ·subst hc
     go_wp2_with(go_at_call 112;refine(compareX_any _ y y).mono ?_;rw[if_neg (Int.lt_irrefl _),if_neg (Int.lt_irrefl _)];rintro e w' ⟨rfl,rfl⟩)
     go_round
     case rel=>exact⟨k+1,by omega,by go_num,hS.out.succ HY.out HY2.out⟩
     case measure=>simp[intOf];omega
   ·go_wp2
    go_ret
    exact⟨1,rfl,⟨fun _=>lex_long hS.out (by omega),fun _=>by decide⟩,rfl⟩
  ·have e:k=l1.length:=by omega
   by_cases hll:l1.length<l2.length
   ·subst e
    go_wp2
    go_ret
    exact⟨-1,rfl,⟨fun h=>absurd h (by decide),fun h=>by rw[lex_end hS.out rfl]at h;simp at h;omega⟩,rfl⟩
   ·subst e
    go_wp2
    go_ret
    exact⟨0,rfl,⟨fun _=>by rw[lex_end hS.out rfl];simpa using hll,fun _=>by decide⟩,rfl⟩
end Go.Proofs.Cz
end
section
namespace Go.Proofs.Cz
open Go.RowKit
def smallerM (a b:Nat):Bool:=smallerL (bitsTo a 4) (bitsTo b 4)
theorem smallerM_trans:∀a b c:Fin 16,smallerM a.1 b.1=true→smallerM b.1 c.1=true→smallerM a.1 c.1=true:=by decide+kernel
theorem smallerM_irr:∀a:Fin 16,smallerM a.1 a.1=false:=by decide+kernel
structure BestM (b:Book) (full k bm:Nat):Prop where
 lt:bm≤full
 is:bm=full∨emptyOf b bm=true
 least:∀m,m<k→emptyOf b m=true→smallerM m bm=false
theorem BestM.skip {b:Book} {full k bm:Nat} (h:BestM b full k bm) (hs:smallerM k bm=false∨emptyOf b k=false):BestM b full (k+1) bm:=⟨h.lt,h.is,fun m hm he=>by
 by_cases e:m=k
 ·subst e
  rcases hs with h1|h1
  ·exact h1
  ·rw[h1]at he;cases he
 ·exact h.least m (by omega) he⟩
theorem BestM.take {b:Book} {full k bm:Nat} (hf:full<16) (hk:k≤full) (h:BestM b full k bm) (hs:smallerM k bm=true) (he:emptyOf b k=true):BestM b full (k+1) k:=⟨hk,.inr he,fun m hm hm2=>by
 by_cases e:m=k
 ·subst e;exact smallerM_irr ⟨m,by omega⟩
 ·have h1:=h.least m (by omega) hm2
  have hb:=h.lt
  cases hx:smallerM m k with
  |false=>rfl
  |true=>exact absurd (smallerM_trans ⟨m,by omega⟩ ⟨k,by omega⟩ ⟨bm,by omega⟩ hx hs) (by rw[h1];decide)⟩
def RetLst (w:World) (b:Book) (e:Ending) (w':World):Prop:=
 (∃v m,e=.returned v∧IntsAt w' v (bitsTo m 4)∧BestM b (2^b.places.toNat-1) (2^b.places.toNat) m)∧Below w.heap.size w w'
set_option maxHeartbeats 1000000 in
set_option maxRecDepth 20000 in
theorem leastX_any (w:World) (v:Value) (b:Book) (hb:BookAt w v b) (hv:Valid b):Calls Tz.prog 49 #[.int .i64 b.places,.func (.func 48) #[v] #[]] w (RetLst w b):=by
 have HB:Hid (BookAt w v b):=hb
 have HV:Hid (Valid b):=hv
 have hpl:=hv.places
 obtain⟨top,htop⟩:∃top:Nat,top=2^b.places.toNat:=⟨_,rfl⟩
 obtain⟨full,hfull⟩:∃full:Nat,full+1=top:=⟨2^b.places.toNat-1,by have:=Nat.two_pow_pos b.places.toNat;omega⟩
 have ht:2≤top∧top≤16:=by
  rcases(by omega:b.places=1∨b.places=2∨b.places=3∨b.places=4)with h|h|h|h<;>(rw[htop,h];decide)
 have hA1:IntKind.i64.wrap (2^b.places.toNat)=(top:Int):=by
  rcases(by omega:b.places=1∨b.places=2∨b.places=3∨b.places=4)with h|h|h|h<;>(rw[htop,h];rfl)
 have hA2:wrap64 (2^b.places.toNat)=(top:Int):=by
  rcases(by omega:b.places=1∨b.places=2∨b.places=3∨b.places=4)with h|h|h|h<;>(rw[htop,h];unfold wrap64;rfl)
 have hB2:wrap64 ((top:Int)-1)=(full:Int):=by unfold wrap64;omega
 have hfl:full<16:=by omega
 have HTF:Hid (2^b.places.toNat-1=full∧2^b.places.toNat=top):=⟨by rw[←htop];omega,htop.symm⟩
 have HFT:Hid ((full:Int)=(top:Int)-1):=(by omega:(full:Int)=(top:Int)-1)
 have HF2:Hid (full+1=top∧top≤16):=⟨hfull,ht.2⟩
 clear hb hv htop hfull
 go_enter Tz.func49,Tz.ntmps49
 go_wp2
 go_step3
 have hC:=listOf_any w full hfl
 rw[HFT.out]at hC
 go_wp2_with(go_at_call 92
             refine hC.mono ?_
             rintro e w1 ⟨⟨r,rfl,hr⟩,hb1⟩
             have HB1:Hid (Below w.heap.size w w1):=hb1
             have HR:Hid (IntsAt w1 r (bitsTo full 4)):=hr
             clear hb1 hr hC)
 clear hB2
 go_step3
 go_wp2
 clear hA1 hA2 hfl
 go_loopw [14,5,6,7] (fun i u _ _ wr=>∃k bm:Nat,k≤top∧i=.int .i64 k∧Hid (IntsAt wr u (bitsTo bm 4)∧BestM b full k bm)∧Hid (Below w.heap.size w wr)) (fun i _ _ _ _=>top-(intOf i).toNat)
 case atStart=>exact⟨0,full,Nat.zero_le _,rfl,⟨HR.out,Nat.le_refl _,.inl rfl,fun m h=>by omega⟩,HB1⟩
 case round=>
  obtain⟨k,bm,hk,rfl,hR,hB⟩:=hrel
  by_cases hlt:k<top
  ·have hC1:=listOf_any wr k (by omega)
   obtain⟨L2,hL2⟩:∃L2,bitsTo k 4=L2:=⟨_,rfl⟩
   obtain⟨Lb,hLb⟩:∃Lb,bitsTo bm 4=Lb:=⟨_,rfl⟩
   have hL1:L2.length≤4:=by rw[←hL2];exact bitsTo_len k 4
   have hL3:Lb.length≤4:=by rw[←hLb];exact bitsTo_len bm 4
   have HSM:Hid (smallerM k bm=smallerL L2 Lb):=by rw[←hL2,←hLb];rfl
   have HKL:Hid (bitsTo k 4=L2):=hL2
   rw[hL2]at hC1
   have hR1:=hR.out.1
   rw[hLb]at hR1
   have HRB:Hid (IntsAt wr u5 Lb):=hR1
   have HBM:Hid (BestM b full k bm):=hR.out.2
   obtain⟨a0,c0,hS0,_⟩:=hR1
   obtain⟨rfl,_,_,_,_⟩:=hS0
   have hsz:=hB.out.size
   clear hL2
   go_wp2_with fail
   refine hC1.mono ?_
   rintro e w2 ⟨⟨r2,rfl,hr2⟩,hb2⟩
   have HB2:Hid (Below w.heap.size w w2):=hB.out.trans (hb2.mono hsz)
   have HI2:Hid (IntsAt w2 r2 L2):=hr2
   have HR2:Hid (IntsAt w2 (.slice a0 Lb.length c0) Lb):=HRB.out.later (Kp.of hb2)
   obtain⟨a2,c2,hS2,_⟩:=hr2
   obtain⟨rfl,_,_,_,_⟩:=hS2
   have ht16:top≤16:=ht.2
   clear hb2 hC1 ht hpl hR
   have HLB:Hid (bitsTo bm 4=Lb):=hLb
   clear hLb
   by_cases h1:Lb.length<L2.length
   ·have HSM2:Hid (smallerM k bm=false):=(by rw[HSM.out];unfold smallerL;simp;omega:smallerM k bm=false)
    have HRx:Hid (IntsAt w2 (.slice a0 Lb.length c0) (bitsTo bm 4)):=by rw[HLB.out];exact HR2.out
    go_wp2_with fail
    go_round
    case rel=>exact⟨k+1,bm,by omega,by go_num,⟨HRx.out,HBM.out.skip (.inl HSM2.out)⟩,HB2⟩
    case measure=>simp[intOf];omega
   ·by_cases h2:L2.length=Lb.length
    ·have hC3:=compareLX_any _ _ _ _ _ HI2.out HR2.out
     cases hx:lexLt L2 Lb with
     |false=>
      have HSM2:Hid (smallerM k bm=false):=(by rw[HSM.out];unfold smallerL;simp[hx,h2]:smallerM k bm=false)
      have HRx:Hid (IntsAt w2 (.slice a0 Lb.length c0) (bitsTo bm 4)):=by rw[HLB.out];exact HR2.out
      rw[hx]at hC3
      clear hx h1
      rw[h2]at hC3⊢
      go_wp2_with(go_at_call 93
                  refine hC3.mono ?_
                  rintro e w3 ⟨x,rfl,hxx,rfl⟩
                  have hx0:0≤x:=(by simpa using hxx)
                  clear hC3 hxx)
      go_round
      case rel=>exact⟨k+1,bm,by omega,by go_num,⟨HRx.out,HBM.out.skip (.inl HSM2.out)⟩,HB2⟩
      case measure=>simp[intOf];omega
     |true=>
      have HSM2:Hid (smallerM k bm=true):=(by rw[HSM.out];unfold smallerL;simp[hx,h2]:smallerM k bm=true)
      rw[hx]at hC3
      clear hx h1
      rw[h2]at hC3 HI2⊢
      go_wp2_with(first
       |(go_at_call 93
         refine hC3.mono ?_
         rintro e w3 ⟨x,rfl,hxx,rfl⟩
         have hx0:¬0≤x:=fun h=>Bool.noConfusion (hxx.1 h)
         clear hC3 hxx)
       |(go_at_call 48
         refine(empty_any _ _ b k (by omega) (HB.out.later (Kp.of HB2.out)) HV.out).mono ?_
         rintro e w3 ⟨rfl,hb3⟩
         have HB3:Hid (Below w.heap.size w w3):=HB2.out.trans (hb3.mono HB2.out.size)
         have HR3:Hid (IntsAt w3 (.slice a0 Lb.length c0) (bitsTo bm 4)):=(by rw[HLB.out];exact HR2.out.later (Kp.of hb3))
         have HI3:Hid (IntsAt w3 (.slice a2 Lb.length c2) (bitsTo k 4)):=(by rw[HKL.out];exact HI2.out.later (Kp.of hb3))
         obtain⟨r3,hr3⟩:∃r3,emptyOf b k=r3:=⟨_,rfl⟩
         have HE3:Hid (emptyOf b k=r3):=hr3
         rw[hr3]
         clear hb3 HR2 HI2 hr3
         cases r3))
      ·go_round
       case rel=>exact⟨k+1,bm,by omega,by go_num,⟨HR3.out,HBM.out.skip (.inr HE3.out)⟩,HB3⟩
       case measure=>simp[intOf];omega
      ·go_round
       case rel=>exact⟨k+1,k,by omega,by go_num,⟨HI3.out,HBM.out.take (by have:=HF2.out;omega) (by have:=HF2.out;omega) HSM2.out HE3.out⟩,HB3⟩
       case measure=>simp[intOf];omega
    ·have HSM2:Hid (smallerM k bm=true):=(by rw[HSM.out];unfold smallerL;simp;omega:smallerM k bm=true)
     have h2i:¬(L2.length:Int)=(Lb.length:Int):=by omega
     go_wp2_with(go_at_call 48
                 refine(empty_any _ _ b k (by omega) (HB.out.later (Kp.of HB2.out)) HV.out).mono ?_
                 rintro e w3 ⟨rfl,hb3⟩
                 have HB3:Hid (Below w.heap.size w w3):=HB2.out.trans (hb3.mono HB2.out.size)
                 have HR3:Hid (IntsAt w3 (.slice a0 Lb.length c0) (bitsTo bm 4)):=(by rw[HLB.out];exact HR2.out.later (Kp.of hb3))
                 have HI3:Hid (IntsAt w3 (.slice a2 L2.length c2) (bitsTo k 4)):=(by rw[HKL.out];exact HI2.out.later (Kp.of hb3))
                 obtain⟨r3,hr3⟩:∃r3,emptyOf b k=r3:=⟨_,rfl⟩
                 have HE3:Hid (emptyOf b k=r3):=hr3
                 rw[hr3]
                 clear hb3 HR2 HI2 hr3
                 cases r3)
     ·go_round
      case rel=>exact⟨k+1,bm,by omega,by go_num,⟨HR3.out,HBM.out.skip (.inr HE3.out)⟩,HB3⟩
      case measure=>simp[intOf];omega
     ·go_round
      case rel=>exact⟨k+1,k,by omega,by go_num,⟨HI3.out,HBM.out.take (by have:=HF2.out;omega) (by have:=HF2.out;omega) HSM2.out HE3.out⟩,HB3⟩
      case measure=>simp[intOf];omega
  ·have e:k=top:=by omega
   subst e
   obtain⟨a0,c0,hS0,_⟩:=hR.out.1
   obtain⟨rfl,_,_,_,_⟩:=hS0
   go_wp2
   rw[Exit.noGoto_ret]
   go_ret
   refine⟨⟨_,bm,rfl,hR.out.1,?_⟩,hB.out⟩
   rw[HTF.out.1,HTF.out.2]
   exact hR.out.2
end Go.Proofs.Cz
end
section
namespace Go.Proofs.Cz
open Go.RowKit
structure WhyM (b:Book) (m:Nat):Prop where
 lt:m<2^b.places.toNat
 none:emptyOf b m=true
 least:∀m',m'<2^b.places.toNat→emptyOf b m'=true→smallerM m' m=false
theorem bestM_spec {b:Book} (hv:Valid b) (h0:machinesOf b=[]) {m:Nat} (h:BestM b (2^b.places.toNat-1) (2^b.places.toNat) m):WhyM b m:=by
 have h1:=Nat.two_pow_pos b.places.toNat
 refine⟨by have:=h.lt;omega,?_,h.least⟩
 rcases h.is with rfl|h2
 ·unfold emptyOf
  rw[decide_eq_true_iff]
  exact h0
 ·exact h2
def RetWhy (w:World) (b:Book) (e:Ending) (w':World):Prop:=
 ((machinesOf b≠ []∧e=.returned (.tuple #[.slice none 0 0,.int .i64 0]))∨(machinesOf b=[]∧∃v m,e=.returned (.tuple #[v,.int .i64 0])∧IntsAt w' v (bitsTo m 4)∧WhyM b m))∧Below w.heap.size w w'
set_option maxHeartbeats 1000000 in
set_option maxRecDepth 20000 in
theorem whyX_any (w:World) (v:Value) (b:Book) (hb:BookAt w v b) (hv:Valid b) (hc:Chk w):Calls Tz.prog 12 #[v] w (RetWhy w b):=by
 have HB:Hid (BookAt w v b):=hb
 have HV:Hid (Valid b):=hv
 have hpl:=hv.places
 obtain⟨v2,v3,v4,rfl,⟨a2,c2,⟨rfl,_,_,_,_⟩,_⟩,⟨a3,c3,⟨rfl,_,_,_,_⟩,_⟩,⟨a4,c4,⟨rfl,_,_,_,_⟩,_⟩⟩:=hb
 have hC:=bCheck_any (w.alloc (.cells #[.int .i64 b.beat,.int .i64 b.places,.slice a2 b.parts.length c2,.slice a3 b.apart.length c3,.slice a4 b.trials.length c4] 26)) _ _ (HB.out.later (Kp.alloc w _)) hv (hc.later ((Below.refl _ _).alloc (Nat.le_refl _) _))
 obtain⟨top,full,ht,hfl,HFT,HE,hA1,hA2⟩:=mask_of b hv
 clear hv hc
 go_enter Tz.func12,Tz.ntmps12
 go_wp2_with(go_at_call 47
             refine hC.mono ?_
             rintro e w1 ⟨⟨r,rfl,rfl⟩,hb1⟩
             have HB1:Hid (Below (w.heap.size+1) _ w1):=hb1.ofAlloc
             obtain⟨s0,s1,s2,s3,s4⟩:=Box5.of79 HB1.out
             clear hC hb1)
 obtain⟨W5,hW5⟩:∃W,w1.alloc (.cells #[.int .i64 b.beat,.int .i64 b.places,.slice a2 b.parts.length c2,.slice a3 b.apart.length c3,.slice a4 b.trials.length c4] 79)=W:=⟨_,rfl⟩
 have b5:Box W5 w1.heap.size 79 #[.int .i64 b.beat,.int .i64 b.places,.slice a2 b.parts.length c2,.slice a3 b.apart.length c3,.slice a4 b.trials.length c4]:=by rw[←hW5];exact Box.new _ _ _
 have HB5:Hid (BookAt W5 (.agg #[.int .i64 b.beat,.int .i64 b.places,.slice a2 b.parts.length c2,.slice a3 b.apart.length c3,.slice a4 b.trials.length c4]) b):=(by
  rw[←hW5];exact(HB.out.later (Kp.boxed HB1.out)).later (Kp.alloc w1 _))
 have HK5:Hid (Below w.heap.size w W5):=(by
  rw[←hW5]
  have hs:=HB1.out.size
  simp at hs
  exact Below.boxed (HB1.out.trans (((Below.refl _ w1).alloc (Nat.le_refl _) _).mono hs)))
 have p1:∀X:After W5,X.1.cell? ⟨w.heap.size,1,none⟩=some (.int .i64 b.places):=fun X=>X.cell (by
  rw[←hW5];exact(cell_on (by have hs:=HB1.out.size;simp at hs;exact hs) _).trans s1)
 have q0:∀X:After W5,X.1.cell? ⟨w1.heap.size,0,none⟩=some (.int .i64 b.beat):=fun X=>X.cell (b5.cell 0 rfl)
 have q1:∀X:After W5,X.1.cell? ⟨w1.heap.size,1,none⟩=some (.int .i64 b.places):=fun X=>X.cell (b5.cell 1 rfl)
 have q2:∀X:After W5,X.1.cell? ⟨w1.heap.size,2,none⟩=some (.slice a2 b.parts.length c2):=fun X=>X.cell (b5.cell 2 rfl)
 have q3:∀X:After W5,X.1.cell? ⟨w1.heap.size,3,none⟩=some (.slice a3 b.apart.length c3):=fun X=>X.cell (b5.cell 3 rfl)
 have q4:∀X:After W5,X.1.cell? ⟨w1.heap.size,4,none⟩=some (.slice a4 b.trials.length c4):=fun X=>X.cell (b5.cell 4 rfl)
 have hE5:∀X:After W5,Calls Tz.prog 48 #[.agg #[.int .i64 b.beat,.int .i64 b.places,.slice a2 b.parts.length c2,.slice a3 b.apart.length c3,.slice a4 b.trials.length c4],.int .i64 ((top:Int)-1)] X.1
  (fun e w''=>e=.returned (.bool (emptyOf b full))∧∃Y:After W5,w''=Y.1):=fun X=>by
  rw[←HFT.out]
  exact(empty_any X.1 _ b full hfl (HB5.out.later X.kp) HV.out).mono fun e w' h=>⟨h.1,X.on h.2⟩
 rw[hW5]
 clear b5 s0 s1 s2 s3 s4 HB HB1 hW5
 generalize emptyOf b full=r at HE hE5
 cases r with
 |false=>
  refine wp_region_after (by kernel_rfl) (by kernel_rfl) ?_
  go_big_quiet_step (fail)
  go_big_quiet_step (fail)
  go_big_quiet_step (fail)
  go_big_quiet_step (fail)
  clear hA1 hA2
  repeat(go_big_quiet_step (first|(go_at_call 48;exact hE5 _)))
  refine wpQuiet_nil ?_
  rintro _ ⟨X,rfl⟩
  have HX:Hid (Below w.heap.size w X.1):=HK5.out.trans (X.2.mono HK5.out.size)
  clear ht hpl hE5
  go_wp2
  go_ret2
  exact⟨.inl ⟨fun h=>Bool.noConfusion (HE.out.2 h),rfl⟩,HX.out⟩
 |true=>
  refine wp_region_after (by kernel_rfl) (by kernel_rfl) ?_
  go_big_quiet_step (fail)
  go_big_quiet_step (fail)
  go_big_quiet_step (fail)
  go_big_quiet_step (fail)
  clear hA1 hA2
  repeat(go_big_quiet_step (first|(go_at_call 48;exact hE5 _)))
  refine wpQuiet_nil ?_
  rintro _ ⟨X,rfl⟩
  have HX:Hid (Below w.heap.size w X.1):=HK5.out.trans (X.2.mono HK5.out.size)
  have hC4:=leastX_any X.1 _ b (HB5.out.later X.kp) HV.out
  have hM:Hid (machinesOf b=[]):=HE.out.1 rfl
  clear ht hpl hE5
  go_wp2_with(go_at_call 49
              refine hC4.mono ?_
              rintro e w2 ⟨⟨vl,bm,rfl,hvl,hbm⟩,hb2⟩
              have HB2:Hid (Below w.heap.size w w2):=HX.out.trans (hb2.mono HX.out.size)
              have HVL:Hid (IntsAt w2 vl (bitsTo bm 4)∧BestM b (2^b.places.toNat-1) (2^b.places.toNat) bm):=⟨hvl,hbm⟩
              clear hb2 hvl hbm)
  go_ret2
  exact⟨.inr ⟨hM.out,vl,bm,rfl,HVL.out.1,bestM_spec HV.out hM.out HVL.out.2⟩,HB2.out⟩
end Go.Proofs.Cz
end
section
namespace Go.Proofs.Cz
open Go.RowKit
def PureD (w:World) (v:Value) (e:Ending) (w':World):Prop:=e=.returned v∧∃n,w'=w.drewN n
theorem PureD.of {w w':World} {x y:Bool} (h:y=x) (hw:∃n,w'=w.drewN n):PureD w (.bool y) (.returned (.bool x)) w':=⟨by rw[h],hw⟩
set_option maxHeartbeats 4000000 in
theorem before_any (w:World) (v1 v2:Value) (l1 l2:List Int) (h1:IntsAt w v1 l1) (h2:IntsAt w v2 l2):Calls Tz.prog 39 #[v1,v2] w (PureD w (.bool (lexLt l1 l2))):=by
 obtain⟨a1,c1,h1,e1⟩:=h1
 obtain⟨a2,c2,h2,e2⟩:=h2
 have H1:Hid (SlAt w v1 l1.length a1 c1∧_):=⟨h1,e1⟩
 have H2:Hid (SlAt w v2 l2.length a2 c2∧_):=⟨h2,e2⟩
 obtain⟨rfl,k1,m1,n1,r1⟩:=h1
 obtain⟨rfl,k2,m2,n2,r2⟩:=h2
 unfold maxLen at m1 m2
 clear e1 e2 n1 r1 n2 r2
 go_enter Tz.func39,Tz.ntmps39
 go_wp2
 go_loopw [5] (fun i w1=>∃k:Nat,k≤l1.length∧k≤l2.length∧i=.int .i64 k∧Hid (SameTo l1 l2 k)∧∃n,w1=w.drewN n) (fun i _=>l1.length-(intOf i).toNat)
 case atStart=>exact⟨0,Nat.zero_le _,Nat.zero_le _,rfl,SameTo.zero _ _,0,rfl⟩
 case round=>
  obtain⟨k,hk,hkk,rfl,hS,n0,rfl⟩:=hrel
  by_cases hlt:k<l1.length
  ·obtain⟨⟨blk,off,sp⟩,y,rfl,hy,y0⟩:=H1.out.1.elem H1.out.2 hlt
   obtain rfl:sp=none:=y0.1
   have g0:=y0.2
   have HY:Hid (l1[k]?=some y):=hy
   simp only at g0
   clear y0 hy
   have hi1:(k:Int)<(l1.length:Int):=by omega
   by_cases hlt2:k<l2.length
   ·obtain⟨⟨blk2,off2,sp2⟩,y2,rfl,hy2,y1⟩:=H2.out.1.elem H2.out.2 hlt2
    obtain rfl:sp2=none:=y1.1
    have g1:=y1.2
    have HY2:Hid (l2[k]?=some y2):=hy2
    simp only at g1
    clear y1 hy2
    have hi2:(k:Int)<(l2.length:Int):=by omega
    by_cases hc:y=y2
    ·subst hc
     go_wp2
     go_quiet (fail)
     go_wp2
     go_round
     case rel=>exact⟨k+1,by omega,by omega,by go_num,hS.out.succ HY.out HY2.out,_,rfl⟩
     case measure=>simp[intOf];omega
    ·have HNE:Hid (y≠y2):=hc
     have hcb:(y==y2)=false:=by simpa using hc
     go_wp2
     go_quiet (fail)
     go_wp2
     go_quiet (fail)
     go_wp2
     go_ret
     exact PureD.of (lex_diff hS.out HY.out HY2.out HNE.out) (by simp only[World.drewN_drewN];exact⟨_,rfl⟩)
   ·have e2:k=l2.length:=by omega
    subst e2
    go_wp2
    go_ret
    exact PureD.of ((lex_long hS.out (Nat.le_refl _)).trans (by simp;omega)) ⟨_,rfl⟩
  ·have e:k=l1.length:=by omega
   subst e
   go_wp2
   go_ret
   exact PureD.of ((lex_end hS.out rfl).trans (by simp)) ⟨_,rfl⟩
set_option maxHeartbeats 1000000 in
theorem smaller_any (w:World) (v1 v2:Value) (l1 l2:List Int) (h1:IntsAt w v1 l1) (h2:IntsAt w v2 l2):Calls Tz.prog 16 #[v1,v2] w (PureD w (.bool (smallerL l1 l2))):=by
 have hC:=before_any w v1 v2 l1 l2 h1 h2
 obtain⟨a1,c1,⟨rfl,k1,m1,_,_⟩,_⟩:=h1
 obtain⟨a2,c2,⟨rfl,k2,m2,_,_⟩,_⟩:=h2
 unfold maxLen at m1 m2
 by_cases hl:l1.length<l2.length
 ·have HR:Hid (smallerL l1 l2=true):=(by unfold smallerL;simp[hl]:smallerL l1 l2=true)
  go_enter Tz.func16,Tz.ntmps16
  go_wp2
  go_ret
  exact PureD.of HR.out ⟨0,rfl⟩
 ·by_cases he:l1.length=l2.length
  ·have HR:Hid (smallerL l1 l2=lexLt l1 l2):=(by unfold smallerL;simp[he]:smallerL l1 l2=lexLt l1 l2)
   have hb:((l1.length:Int)==(l2.length:Int))=true:=by rw[he];exact beq_self_eq_true _
   clear he
   go_enter Tz.func16,Tz.ntmps16
   go_wp2_with(go_at_call 39;refine hC.mono ?_;rintro e w1 ⟨rfl,n,rfl⟩)
   go_ret
   exact PureD.of HR.out ⟨n,rfl⟩
  ·have HR:Hid (smallerL l1 l2=false):=(by unfold smallerL;simp[hl,he]:smallerL l1 l2=false)
   have hb:((l1.length:Int)==(l2.length:Int))=false:=by simp;omega
   go_enter Tz.func16,Tz.ntmps16
   go_wp2
   go_ret
   exact PureD.of HR.out ⟨0,rfl⟩
end Go.Proofs.Cz
end
section
namespace Go.Proofs.Cz
open Go.RowKit
section
variable {α:Type}
end
end Go.Proofs.Cz
end
section
namespace Go.Proofs.Cz
open Go.RowKit
def partC (x:Part) (f:Value):List Value:=[.string x.name,.int .i64 x.cost,.int .i64 x.stock,.int .i64 x.lo,.int .i64 x.hi,f]
def partsC:List Part→List Value→List Value
 |x::l,f::fs=>partC x f++partsC l fs
 |_,_=>[]
theorem partsC_len:∀(l:List Part) (fs:List Value),fs.length=l.length→(partsC l fs).length=l.length*6
 | [],[],_=>rfl
 |x::l,f::fs,h=>by
  have:=partsC_len l fs (by simpa using h)
  rw[partsC,List.length_append,this,List.length_cons]
  show 6+_=_
  omega
theorem partsC_snoc:∀(l:List Part) (fs:List Value) (x:Part) (f:Value),fs.length=l.length→partsC (l++[x]) (fs++[f])=partsC l fs++partC x f
 | [],[],x,f,_=>by simp[partsC]
 |y::l,g::fs,x,f,h=>by
  have:=partsC_snoc l fs x f (by simpa using h)
  simp only[List.cons_append,partsC,this,List.append_assoc]
theorem partsC_get:∀(l:List Part) (fs:List Value) (j r:Nat) (x:Part) (f:Value),l[j]?=some x→fs[j]?=some f→r<6→(partsC l fs)[j*6+r]?=(partC x f)[r]?
 |y::l,g::fs,0,r,x,f,hx,hf,hr=>by
  simp at hx hf
  subst hx hf
  rw[partsC,Nat.zero_mul,Nat.zero_add,List.getElem?_append_left (by show r<6;exact hr)]
 |y::l,g::fs,j+1,r,x,f,hx,hf,hr=>by
  simp only[List.getElem?_cons_succ]at hx hf
  have:=partsC_get l fs j r x f hx hf hr
  rw[partsC,List.getElem?_append_right (by show 6≤_;omega)]
  show(partsC l fs)[(j+1)*6+r-6]?=_
  rw[show(j+1)*6+r-6=j*6+r by omega]
  exact this
 | [],_,_,_,_,_,hx,_,_=>by simp at hx
 |_::_,[],_,_,_,_,_,hf,_=>by simp at hf
end Go.Proofs.Cz
end
section
namespace Go.Proofs.Cz
open Go.RowKit
def RetBk (w:World) (b:Book) (e:Ending) (w':World):Prop:=(∃v,e=.returned v∧BookAt w' v b)∧Below w.heap.size w w'
theorem Box.below {A w':World} {B g:Nat} {t:TypeId} {cs:Array Value} (h:Box A g t cs) (k:Below B A w') (hg:g<B):Box w' g t cs:=(k.block g hg).trans h
theorem box_new {w:World} {P:Nat} {t:TypeId} {cs:Array Value} (h:Box w P t cs):∀j u,cs.toList[j]?=some u→w.cell? ((⟨P,0,none⟩:Addr).add j)=some u:=fun j u hu=>by
 have hadd:(⟨P,0,none⟩:Addr).add j=⟨P,j,none⟩:=by unfold Addr.add;split<;>simp_all
 rw[hadd]
 exact h.cell j (by simpa using hu)
theorem part_one (s:ByteArray) (a b c d:Int) (fa:Option Addr) (n m:Nat):∀u∈ [Value.string s,.int .i64 a,.int .i64 b,.int .i64 c,.int .i64 d,.slice fa n m],u.oneCell'=true:=fun u h=>by
 simp at h
 rcases h with rfl|rfl|rfl|rfl|rfl|rfl<;>rfl
theorem info34:(Tz.prog.info? 34).map (fun i=>(i.zero,i.size,i.bytes))=some (some (.agg #[.string .empty,.int .i64 0,.int .i64 0,.int .i64 0,.int .i64 0,.slice none 0 0]),6,72):=by kernel_rfl
theorem under22:Tz.prog.underlying 22=some (.slice 34):=by rw[Tz.under];exact Tryz.underlying22
end Go.Proofs.Cz
end
section
namespace Go.Proofs.Cz
open Go.RowKit
theorem rising_iff {l:List Int} {n:Int}:Rising l n↔(∀y∈l,0≤y∧y≤n-1)∧l.Pairwise (·<·):=by
 constructor
 ·intro h
  refine⟨fun y hy=>?_,?_⟩
  ·obtain⟨j,hj,rfl⟩:=List.getElem_of_mem hy
   have:=h j _ hj (List.getElem?_eq_getElem hj)
   exact⟨this.1,this.2.1⟩
  ·rw[List.pairwise_iff_getElem]
   have step:∀(d i:Nat) (hi:i<l.length) (hj:i+d+1<l.length),l[i]<l[i+d+1]:=by
    intro d
    induction d with
    |zero=>exact fun i hi hj=>(h (i+1) _ hj (List.getElem?_eq_getElem hj)).2.2 _ (by omega) (List.getElem?_eq_getElem hi)
    |succ d ih=>
     intro i hi hj
     have h1:=ih i hi (by omega)
     have h2:=(h (i+(d+1)+1) _ hj (List.getElem?_eq_getElem hj)).2.2 (l[i+d+1]'(by omega)) (by omega) (List.getElem?_eq_getElem (by omega))
     omega
   intro i j hi hj hij
   obtain⟨d,rfl⟩:∃d,j=i+d+1:=⟨j-i-1,by omega⟩
   exact step d i hi hj
 ·rintro⟨h1,h2⟩ j y hj hy
  have hm:=h1 y (List.mem_of_getElem? hy)
  refine⟨hm.1,hm.2,fun z hz hz2=>?_⟩
  rw[List.pairwise_iff_getElem]at h2
  obtain⟨hj2,rfl⟩:=List.getElem?_eq_some_iff.1 hy
  obtain⟨hj3,rfl⟩:=List.getElem?_eq_some_iff.1 hz2
  exact h2 (j-1) j hj3 hj2 (by omega)
theorem mem_canTo {p x:Int} {l:List Part}:∀{k:Nat},x∈canTo p l k↔∃i:Nat,i<k∧x=i∧∃y,l[i]?=some y∧p∈y.fits
 |0=>by simp[canTo]
 |k+1=>by
  rw[canTo,List.mem_append,mem_canTo]
  constructor
  ·rintro(⟨i,hi,h⟩|h)
   ·exact⟨i,by omega,h⟩
   ·cases hk:l[k]? with
    |none=>simp[hk]at h
    |some y=>
     simp only[hk]at h
     split at h
     ·simp at h
      exact⟨k,by omega,h,y,hk,by assumption⟩
     ·simp at h
  ·rintro⟨i,hi,rfl,y,hy,hp⟩
   by_cases e:i=k
   ·subst e
    right
    simp[hy,hp]
   ·exact .inl ⟨i,by omega,rfl,y,hy,hp⟩
end Go.Proofs.Cz
end
section
namespace Go.Proofs.Cz
open Go.RowKit
end Go.Proofs.Cz
end
section
namespace Go.Proofs.Cz
open Go.RowKit
end Go.Proofs.Cz
end
section
namespace Go.Proofs.Cz
open Go.RowKit
attribute [local go_sem] Oper.semAt_some
end Go.Proofs.Cz
end
section
namespace Go.Proofs.Cz
open Go.RowKit
end Go.Proofs.Cz
end
section
namespace Go.Proofs.Cz
open Go.RowKit
end Go.Proofs.Cz
end
