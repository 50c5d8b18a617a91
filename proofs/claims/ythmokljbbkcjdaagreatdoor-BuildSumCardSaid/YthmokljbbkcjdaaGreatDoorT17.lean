/- A part of the proof that BuildSum returns true. Conditions: none. -/
import Derived.Test.YthmokljbbkcjdaaGreatDoorT16
import Derived.WalkMore
import Derived.Deep.LoopGhost
set_option linter.unusedVariables false
set_option linter.unusedSimpArgs false
section
namespace Go.Proofs.Cz
open Go.RowKit
theorem bits_some:∀ mask:Fin 16,mask.1 ≠ 0→bitsTo mask.1 4 ≠ []:=by decide +kernel
theorem empty_zero (b:Book):emptyOf b 0=false:=by
  refine decide_eq_false ?_
  have:∀ n p m,fill b (0:Nat).testBit n p m=[m]:=by
    intro n
    induction n with
    | zero=>intro p m;rfl
    | succ n ih=>intro p m;rw [fill_no (by simp),ih]
  unfold fillOf
  rw [this]
  simp
def Best (w:World) (v:Value):Prop:=∃ l,IntsAt w v l∧l ≠ []∧l.length ≤ 4
theorem Best.slice {w:World} {v:Value} (h:Best w v):∃ a n c,v=.slice a n c∧0 < n∧n ≤ 4:=by
  obtain ⟨l,⟨a,c,h1,_⟩,hne,hl⟩:=h
  exact ⟨a,l.length,c,h1.eq,List.length_pos_iff.2 hne,hl⟩
def RetS (w:World) (e:Ending) (w':World):Prop:=(∃ a n c,e=.returned (.slice a n c)∧0 < n)∧Below w.heap.size w w'
def RetE (w:World) (k:Nat) (e:Ending) (w':World):Prop:=∃ r,e=.returned (.bool r)∧(r=true→k ≠ 0)∧Below w.heap.size w w'
theorem emptyE_any (w:World) (v:Value) (b:Book) (mask:Nat) (hm:mask < 16) (hb:BookAt w v b) (hv:Valid b):Calls Tz.prog 48 #[v,.int .i64 mask] w (RetE w mask) :=
  (empty_any w v b mask hm hb hv).mono fun e w' h=>⟨_,h.1,(fun he h0=>by rw [h0,empty_zero] at he;cases he),h.2⟩
set_option maxHeartbeats 1000000 in
set_option maxRecDepth 20000 in
theorem least_any (w:World) (v:Value) (b:Book) (hb:BookAt w v b) (hv:Valid b):Calls Tz.prog 49 #[.int .i64 b.places,.func (.func 48) #[v] #[]] w (RetS w):=by
  have HB:Hid (BookAt w v b):=hb
  have HV:Hid (Valid b):=hv
  have hpl:=hv.places
  obtain ⟨top,htop⟩:∃ top:Nat,top=2 ^ b.places.toNat:=⟨_,rfl⟩
  obtain ⟨full,hfull⟩:∃ full:Nat,full + 1=top:=⟨2 ^ b.places.toNat - 1,by have:=Nat.two_pow_pos b.places.toNat;omega⟩
  have ht:2 ≤ top∧top ≤ 16:=by
    rcases (by omega:b.places=1 ∨ b.places=2 ∨ b.places=3 ∨ b.places=4) with h | h | h | h <;> (rw [htop,h];decide)
  have hA1:IntKind.i64.wrap (2 ^ b.places.toNat)=(top:Int):=by
    rcases (by omega:b.places=1 ∨ b.places=2 ∨ b.places=3 ∨ b.places=4) with h | h | h | h <;> (rw [htop,h];rfl)
  have hA2:wrap64 (2 ^ b.places.toNat)=(top:Int):=by
    rcases (by omega:b.places=1 ∨ b.places=2 ∨ b.places=3 ∨ b.places=4) with h | h | h | h <;> (rw [htop,h];unfold wrap64;rfl)
  have hB2:wrap64 ((top:Int) - 1)=(full:Int):=by unfold wrap64;omega
  have hfl:full < 16:=by omega
  have hf0:full ≠ 0:=by omega
  have HFT:Hid ((full:Int)=(top:Int) - 1):=(by omega:(full:Int)=(top:Int) - 1)
  clear hb hv htop hfull
  go_enter Tz.func49,Tz.ntmps49
  go_wp2
  go_step3
  have hC:=listOf_any w full hfl
  rw [HFT.out] at hC
  go_wp2_with (go_at_call 92
               refine hC.mono ?_
               rintro e w1 ⟨⟨r,rfl,hr⟩,hb1⟩
               have HB1:Hid (Below w.heap.size w w1):=hb1
               have HR:Hid (Best w1 r):=⟨_,hr,bits_some ⟨full,hfl⟩ hf0,bitsTo_len _ _⟩
               clear hb1 hr hC)
  clear hB2
  go_step3
  go_wp2
  clear hA1 hA2 hfl hf0
  go_loopw [14,5,6,7] (fun i u _ _ wr=>∃ k:Nat,k ≤ top∧i=.int .i64 k∧Hid (Best wr u)∧Hid (Below w.heap.size w wr)) (fun i _ _ _ _=>top - (intOf i).toNat)
  case atStart=>exact ⟨0,Nat.zero_le _,rfl,HR,HB1⟩
  case round =>
    obtain ⟨k,hk,rfl,hR,hB⟩:=hrel
    by_cases hlt:k < top
    · have hC1:=listOf_any wr k (by omega)
      have hL1:=bitsTo_len k 4
      have hL2:Hid (k ≠ 0→bitsTo k 4 ≠ []):=bits_some ⟨k,by omega⟩
      generalize bitsTo k 4=L2 at hC1 hL1 hL2
      have hsz:=hB.out.size
      obtain ⟨a0,n0,c0,rfl,hn0,hn4⟩:=hR.out.slice
      go_wp2_with fail
      refine hC1.mono ?_
      rintro e w2 ⟨⟨r2,rfl,hr2⟩,hb2⟩
      have HB2:Hid (Below w.heap.size w w2):=hB.out.trans (hb2.mono hsz)
      have HI2:Hid (IntsAt w2 r2 L2):=hr2
      have HR2:Hid (Best w2 (.slice a0 n0 c0)):=(by
        obtain ⟨l,h1,h2⟩:=hR.out
        exact ⟨l,h1.later (Kp.of hb2),h2⟩)
      obtain ⟨a2,c2,hS2,_⟩:=hr2
      obtain ⟨rfl,_,_,_,_⟩:=hS2
      have ht16:top ≤ 16:=ht.2
      clear hb2 hC1 ht hpl
      by_cases h1:n0 < L2.length
      · go_wp2_with fail
        go_round
        case rel=>exact ⟨k + 1,by omega,by go_num,HR2,HB2⟩
        case measure=>simp [intOf];omega
      · by_cases h2:L2.length=n0
        · subst h2
          clear h1
          obtain ⟨l,h3,_⟩:=HR2.out
          have hC3:=compareL_any _ _ _ _ _ HI2.out h3
          clear h3
          go_wp2_with (first
                    | (go_at_call 93
                       refine hC3.mono ?_
                       rintro e w3 ⟨⟨x,rfl⟩,rfl⟩
                       clear hC3
                       by_cases hx:0 ≤ x)
                    | (go_at_call 48
                       refine (emptyE_any _ _ b k (by omega) (HB.out.later (Kp.of HB2.out)) HV.out).mono ?_
                       rintro e w3 ⟨r3,rfl,hr3,hb3⟩
                       have HB3:Hid (Below w.heap.size w w3):=HB2.out.trans (hb3.mono HB2.out.size)
                       have HR3:Hid (Best w3 (.slice a0 L2.length c0)):=(by
                         obtain ⟨l,h1,h2⟩:=HR2.out
                         exact ⟨l,h1.later (Kp.of hb3),h2⟩)
                       have HN3:Hid (r3=true→Best w3 (.slice a2 L2.length c2)):=(fun he =>
                         ⟨L2,HI2.out.later (Kp.of hb3),hL2.out (hr3 he),hL1⟩)
                       clear hb3 HR2 HI2 hr3
                       cases r3))
          · go_round
            case rel=>exact ⟨k + 1,by omega,by go_num,HR2,HB2⟩
            case measure=>simp [intOf];omega
          · go_round
            case rel=>exact ⟨k + 1,by omega,by go_num,HR3,HB3⟩
            case measure=>simp [intOf];omega
          · go_round
            case rel=>exact ⟨k + 1,by omega,by go_num,HN3.out (by simp),HB3⟩
            case measure=>simp [intOf];omega
        · have h2i:¬ (L2.length:Int)=(n0:Int):=by omega
          go_wp2_with (go_at_call 48
                       refine (emptyE_any _ _ b k (by omega) (HB.out.later (Kp.of HB2.out)) HV.out).mono ?_
                       rintro e w3 ⟨r3,rfl,hr3,hb3⟩
                       have HB3:Hid (Below w.heap.size w w3):=HB2.out.trans (hb3.mono HB2.out.size)
                       have HR3:Hid (Best w3 (.slice a0 n0 c0)):=(by
                         obtain ⟨l,h1,h2⟩:=HR2.out
                         exact ⟨l,h1.later (Kp.of hb3),h2⟩)
                       have HN3:Hid (r3=true→Best w3 (.slice a2 L2.length c2)):=(fun he =>
                         ⟨L2,HI2.out.later (Kp.of hb3),hL2.out (hr3 he),hL1⟩)
                       clear hb3 HR2 HI2 hr3
                       cases r3)
          · go_round
            case rel=>exact ⟨k + 1,by omega,by go_num,HR3,HB3⟩
            case measure=>simp [intOf];omega
          · go_round
            case rel=>exact ⟨k + 1,by omega,by go_num,HN3.out (by simp),HB3⟩
            case measure=>simp [intOf];omega
    · have e:k=top:=by omega
      subst e
      obtain ⟨a0,n0,c0,rfl,hn0,hn4⟩:=hR.out.slice
      go_wp2
      rw [Exit.noGoto_ret]
      go_ret
      exact ⟨⟨_,_,_,rfl,hn0⟩,hB.out⟩
end Go.Proofs.Cz
end
section
namespace Go.Proofs.Cz
open Go.RowKit
def RetW (w:World) (b:Book) (e:Ending) (w':World):Prop:=(∃ a n c,e=.returned (.tuple #[.slice a n c,.int .i64 0])∧(0 < n ↔ machinesOf b=[]))∧Below w.heap.size w w'
theorem mask_of (b:Book) (hv:Valid b):∃ top full:Nat,(2 ≤ top∧top ≤ 16)∧full < 16∧Hid ((full:Int)=(top:Int) - 1)∧Hid (emptyOf b full=true ↔ machinesOf b=[]) ∧
    IntKind.i64.wrap (2 ^ b.places.toNat)=(top:Int)∧wrap64 (2 ^ b.places.toNat)=(top:Int):=by
  have hpl:=hv.places
  obtain ⟨n,hn⟩:∃ n,b.places.toNat=n:=⟨_,rfl⟩
  have hn4:n=1 ∨ n=2 ∨ n=3 ∨ n=4:=by omega
  have hE:emptyOf b (2 ^ n - 1)=true ↔ machinesOf b=[]:=by
    rw [← hn]
    unfold emptyOf
    rw [decide_eq_true_iff]
    unfold fillOf machinesOf
    exact Iff.rfl
  rw [hn]
  rcases hn4 with rfl | rfl | rfl | rfl
  · exact ⟨2,1,by omega,by omega,(by omega:_=_),hE,rfl,by unfold wrap64;rfl⟩
  · exact ⟨4,3,by omega,by omega,(by omega:_=_),hE,rfl,by unfold wrap64;rfl⟩
  · exact ⟨8,7,by omega,by omega,(by omega:_=_),hE,rfl,by unfold wrap64;rfl⟩
  · exact ⟨16,15,by omega,by omega,(by omega:_=_),hE,rfl,by unfold wrap64;rfl⟩
set_option maxHeartbeats 1000000 in
set_option maxRecDepth 20000 in
theorem why_any (w:World) (v:Value) (b:Book) (hb:BookAt w v b) (hv:Valid b) (hc:Chk w):Calls Tz.prog 12 #[v] w (RetW w b):=by
  have HB:Hid (BookAt w v b):=hb
  have HV:Hid (Valid b):=hv
  have hpl:=hv.places
  obtain ⟨v2,v3,v4,rfl,⟨a2,c2,⟨rfl,_,_,_,_⟩,_⟩,⟨a3,c3,⟨rfl,_,_,_,_⟩,_⟩,⟨a4,c4,⟨rfl,_,_,_,_⟩,_⟩⟩:=hb
  have hC:=bCheck_any (w.alloc (.cells #[.int .i64 b.beat,.int .i64 b.places,.slice a2 b.parts.length c2,.slice a3 b.apart.length c3,.slice a4 b.trials.length c4] 26)) _ _ (HB.out.later (Kp.alloc w _)) hv (hc.later ((Below.refl _ _).alloc (Nat.le_refl _) _))
  obtain ⟨top,full,ht,hfl,HFT,HE,hA1,hA2⟩:=mask_of b hv
  clear hv hc
  go_enter Tz.func12,Tz.ntmps12
  go_wp2_with (go_at_call 47
               refine hC.mono ?_
               rintro e w1 ⟨⟨r,rfl,rfl⟩,hb1⟩
               have HB1:Hid (Below (w.heap.size + 1) _ w1):=hb1.ofAlloc
               obtain ⟨s0,s1,s2,s3,s4⟩:=Box5.of79 HB1.out
               clear hC hb1)
  obtain ⟨W5,hW5⟩:∃ W,w1.alloc (.cells #[.int .i64 b.beat,.int .i64 b.places,.slice a2 b.parts.length c2,.slice a3 b.apart.length c3,.slice a4 b.trials.length c4] 79)=W:=⟨_,rfl⟩
  have b5:Box W5 w1.heap.size 79 #[.int .i64 b.beat,.int .i64 b.places,.slice a2 b.parts.length c2,.slice a3 b.apart.length c3,.slice a4 b.trials.length c4]:=by rw [← hW5];exact Box.new _ _ _
  have HB5:Hid (BookAt W5 (.agg #[.int .i64 b.beat,.int .i64 b.places,.slice a2 b.parts.length c2,.slice a3 b.apart.length c3,.slice a4 b.trials.length c4]) b):=(by
    rw [← hW5];exact (HB.out.later (Kp.boxed HB1.out)).later (Kp.alloc w1 _))
  have HK5:Hid (Below w.heap.size w W5):=(by
    rw [← hW5]
    have hs:=HB1.out.size
    simp at hs
    exact Below.boxed (HB1.out.trans (((Below.refl _ w1).alloc (Nat.le_refl _) _).mono hs)))
  have p1:∀ X:After W5,X.1.cell? ⟨w.heap.size,1,none⟩=some (.int .i64 b.places):=fun X=>X.cell (by
    rw [← hW5];exact (cell_on (by have hs:=HB1.out.size;simp at hs;exact hs) _).trans s1)
  have q0:∀ X:After W5,X.1.cell? ⟨w1.heap.size,0,none⟩=some (.int .i64 b.beat):=fun X=>X.cell (b5.cell 0 rfl)
  have q1:∀ X:After W5,X.1.cell? ⟨w1.heap.size,1,none⟩=some (.int .i64 b.places):=fun X=>X.cell (b5.cell 1 rfl)
  have q2:∀ X:After W5,X.1.cell? ⟨w1.heap.size,2,none⟩=some (.slice a2 b.parts.length c2):=fun X=>X.cell (b5.cell 2 rfl)
  have q3:∀ X:After W5,X.1.cell? ⟨w1.heap.size,3,none⟩=some (.slice a3 b.apart.length c3):=fun X=>X.cell (b5.cell 3 rfl)
  have q4:∀ X:After W5,X.1.cell? ⟨w1.heap.size,4,none⟩=some (.slice a4 b.trials.length c4):=fun X=>X.cell (b5.cell 4 rfl)
  have hE5:∀ X:After W5,Calls Tz.prog 48 #[.agg #[.int .i64 b.beat,.int .i64 b.places,.slice a2 b.parts.length c2,.slice a3 b.apart.length c3,.slice a4 b.trials.length c4],.int .i64 ((top:Int) - 1)] X.1
      (fun e w''=>e=.returned (.bool (emptyOf b full))∧∃ Y:After W5,w''=Y.1):=fun X=>by
    rw [← HFT.out]
    exact (empty_any X.1 _ b full hfl (HB5.out.later X.kp) HV.out).mono fun e w' h=>⟨h.1,X.on h.2⟩
  rw [hW5]
  clear b5 s0 s1 s2 s3 s4 HB HB1 hW5
  generalize emptyOf b full=r at HE hE5
  cases r with
  | false =>
    refine wp_region_after (by kernel_rfl) (by kernel_rfl) ?_
    go_big_quiet_step (fail)
    go_big_quiet_step (fail)
    go_big_quiet_step (fail)
    go_big_quiet_step (fail)
    clear hA1 hA2
    repeat (go_big_quiet_step (first | (go_at_call 48;exact hE5 _)))
    refine wpQuiet_nil ?_
    rintro _ ⟨X,rfl⟩
    have HX:Hid (Below w.heap.size w X.1):=HK5.out.trans (X.2.mono HK5.out.size)
    clear ht hpl hE5
    go_wp2
    go_ret2
    exact ⟨⟨none,0,0,rfl,by simp;intro h;have:=HE.out.2 h;cases this⟩,HX.out⟩
  | true =>
    refine wp_region_after (by kernel_rfl) (by kernel_rfl) ?_
    go_big_quiet_step (fail)
    go_big_quiet_step (fail)
    go_big_quiet_step (fail)
    go_big_quiet_step (fail)
    clear hA1 hA2
    repeat (go_big_quiet_step (first | (go_at_call 48;exact hE5 _)))
    refine wpQuiet_nil ?_
    rintro _ ⟨X,rfl⟩
    have HX:Hid (Below w.heap.size w X.1):=HK5.out.trans (X.2.mono HK5.out.size)
    have hC4:=least_any X.1 _ b (HB5.out.later X.kp) HV.out
    have hM:Hid (machinesOf b=[]):=HE.out.1 rfl
    clear ht hpl hE5
    go_wp2_with (go_at_call 49
                 refine hC4.mono ?_
                 rintro e w2 ⟨⟨a,n,c,rfl,hn⟩,hb2⟩
                 have HB2:Hid (Below w.heap.size w w2):=HX.out.trans (hb2.mono HX.out.size)
                 clear hb2)
    go_ret2
    exact ⟨⟨a,n,c,rfl,fun _=>hM.out,fun _=>hn⟩,HB2.out⟩
end Go.Proofs.Cz
end
section
namespace Go.Proofs.Cz
open Go.RowKit
def keepTo (l:List Int) (p k i:Int):Nat→List Int
  | 0=>[]
  | j + 1=>keepTo l p k i j ++ (match l[j]? with | some n=>if n=p∧i ≠ k then [] else [n] | none=>[])
def onlyPart (p k:Int) (i:Nat) (x:Part):Part:={ x with fits:=keepTo x.fits p k i x.fits.length }
def onlyTo (l:List Part) (p k:Int):Nat→List Part
  | 0=>[]
  | i + 1=>onlyTo l p k i ++ (match l[i]? with | some x=>[onlyPart p k i x] | none=>[])
def onlyOf (b:Book) (p k:Int):Book:={ b with parts:=onlyTo b.parts p k b.parts.length,trials:=[] }
theorem keepTo_no {l:List Int} {p k i n:Int} {j:Nat} (hn:l[j]?=some n) (h:n=p∧i ≠ k):keepTo l p k i (j + 1)=keepTo l p k i j:=by rw [keepTo,hn];simp [h]
theorem keepTo_yes {l:List Int} {p k i n:Int} {j:Nat} (hn:l[j]?=some n) (h:¬ (n=p∧i ≠ k)):keepTo l p k i (j + 1)=keepTo l p k i j ++ [n]:=by rw [keepTo,hn];simp only;rw [if_neg h]
theorem keepTo_len (l:List Int) (p k i:Int):∀ j,(keepTo l p k i j).length ≤ j
  | 0=>Nat.le_refl _
  | j + 1=>by
    have:=keepTo_len l p k i j
    unfold keepTo
    rw [List.length_append]
    have:(match l[j]? with | some n=>if n=p∧i ≠ k then [] else [n] | none=>[]:List Int).length ≤ 1:=by
      split
      · split <;> simp
      · simp
    omega
theorem onlyTo_succ {l:List Part} {p k:Int} {i:Nat} {x:Part} (hx:l[i]?=some x):onlyTo l p k (i + 1)=onlyTo l p k i ++ [onlyPart p k i x]:=by rw [onlyTo,hx]
theorem onlyTo_len {l:List Part} {p k:Int}:∀ i,i ≤ l.length→(onlyTo l p k i).length=i
  | 0,_=>rfl
  | i + 1,h=>by
    have hx:l[i]?=some l[i]:=List.getElem?_eq_getElem (by omega)
    rw [onlyTo_succ hx,List.length_append,onlyTo_len i (by omega)]
    rfl
def partC (x:Part) (f:Value):List Value:=[.string x.name,.int .i64 x.cost,.int .i64 x.stock,.int .i64 x.lo,.int .i64 x.hi,f]
def partsC:List Part→List Value→List Value
  | x :: l,f :: fs=>partC x f ++ partsC l fs
  | _,_=>[]
theorem partsC_snoc:∀ (l:List Part) (fs:List Value) (x:Part) (f:Value),fs.length=l.length→partsC (l ++ [x]) (fs ++ [f])=partsC l fs ++ partC x f
  | [],[],x,f,_=>by simp [partsC]
  | y :: l,g :: fs,x,f,h=>by
    have:=partsC_snoc l fs x f (by simpa using h)
    simp only [List.cons_append,partsC,this,List.append_assoc]
theorem partsC_get:∀ (l:List Part) (fs:List Value) (j r:Nat) (x:Part) (f:Value),l[j]?=some x→fs[j]?=some f→r < 6→(partsC l fs)[j * 6 + r]?=(partC x f)[r]?
  | y :: l,g :: fs,0,r,x,f,hx,hf,hr=>by
    simp at hx hf
    subst hx hf
    rw [partsC,Nat.zero_mul,Nat.zero_add,List.getElem?_append_left (by show r < 6;exact hr)]
  | y :: l,g :: fs,j + 1,r,x,f,hx,hf,hr=>by
    simp only [List.getElem?_cons_succ] at hx hf
    have:=partsC_get l fs j r x f hx hf hr
    rw [partsC,List.getElem?_append_right (by show 6 ≤ _;omega)]
    show (partsC l fs)[(j + 1) * 6 + r - 6]?=_
    rw [show (j + 1) * 6 + r - 6=j * 6 + r by omega]
    exact this
  | [],_,_,_,_,_,hx,_,_=>by simp at hx
  | _ :: _,[],_,_,_,_,_,hf,_=>by simp at hf
def FitsAt (w:World) (l:List Part) (fs:List Value):Prop :=
  fs.length=l.length∧∀ (j:Nat) (x:Part) (f:Value),l[j]?=some x→fs[j]?=some f→w.ownsRow 0 3 1 f x.fits.length (x.fits.map (Value.int .i64))
theorem FitsAt.snoc {w:World} {l:List Part} {fs:List Value} {x:Part} {f:Value} (h:FitsAt w l fs) (hf:w.ownsRow 0 3 1 f x.fits.length (x.fits.map (Value.int .i64))):FitsAt w (l ++ [x]) (fs ++ [f]):=by
  refine ⟨by simp [h.1],fun j y g hy hg=>?_⟩
  by_cases e:j < l.length
  · rw [List.getElem?_append_left e] at hy
    rw [List.getElem?_append_left (by rw [h.1];exact e)] at hg
    exact h.2 j y g hy hg
  · rw [List.getElem?_append_right (by omega)] at hy
    rw [List.getElem?_append_right (by rw [h.1];omega)] at hg
    have:j - l.length=0:=by
      have:=(List.getElem?_eq_some_iff.1 hy).1
      simp at this;omega
    rw [this] at hy
    rw [h.1,this] at hg
    simp at hy hg
    subst hy hg
    exact hf
theorem FitsAt.on {w w':World} {l:List Part} {fs:List Value} (h:FitsAt w l fs) (hk:∀ (k:Nat) (cur:Array Value),w.heap[k]?=some (Obj.cells cur 3 (0,0))→w'.heap[k]?=w.heap[k]?):FitsAt w' l fs :=
  ⟨h.1,fun j x f hx hf=>by
    have ho:=h.2 j x f hx hf
    refine ownsRow_on ho fun k e=>?_
    obtain ⟨_,⟨rfl,_⟩ | ⟨g,cap,cur,rfl,_,hg,_⟩⟩:=ho
    · cases e
    · cases e;exact hk _ _ hg⟩
theorem ownsRow_base {w:World} {B B':Nat} {e:TypeId} {s:Nat} {v:Value} {n:Nat} {xs:List Value} (h:w.ownsRow B e s v n xs) (hB:B' ≤ B):w.ownsRow B' e s v n xs:=by
  obtain ⟨h1,h | ⟨g,cap,cur,rfl,hg,r⟩⟩:=h
  · exact ⟨h1,.inl h⟩
  · exact ⟨h1,.inr ⟨g,cap,cur,rfl,by omega,r⟩⟩
theorem PartsAt.of_owns {w:World} {B:Nat} {v:Value} {l:List Part} {fs:List Value} (h:w.ownsRow B 34 6 v l.length (partsC l fs)) (hf:FitsAt w l fs):PartsAt w v l:=by
  obtain ⟨_,⟨rfl,h0⟩ | ⟨g,cap,cur,rfl,_,hg,hle,hcap,hsz,htk⟩⟩:=h
  · have:l=[]:=List.eq_nil_of_length_eq_zero h0
    subst this
    exact ⟨none,0,⟨rfl,Nat.le_refl _,by unfold maxLen;omega,fun _=>rfl,(fun b hb=>by cases hb)⟩,fun b hb=>by cases hb⟩
  · refine ⟨_,cap,⟨rfl,hle,hcap,(fun h=>by cases h),fun b hb=>Or.inr ⟨cur,34,(0,0),by cases hb;exact hg⟩⟩,fun b hb j x hj=>?_⟩
    cases hb
    have hj2:j < l.length:=(List.getElem?_eq_some_iff.1 hj).1
    obtain ⟨f,hfj⟩:∃ f,fs[j]?=some f:=⟨_,List.getElem?_eq_getElem (by rw [hf.1];exact hj2)⟩
    have cell:∀ r u,r < 6→(partC x f)[r]?=some u→At w ⟨g,0,none⟩ (j * 6 + r) u:=fun r u hr hu=>by
      refine ⟨rfl,?_⟩
      simp only [World.cell?,hg]
      have h1:=partsC_get l fs j r x f hj hfj hr
      rw [hu,← htk,List.getElem?_take,if_pos (by omega)] at h1
      simpa using h1
    exact ⟨cell 0 _ (by omega) rfl,cell 1 _ (by omega) rfl,cell 2 _ (by omega) rfl,cell 3 _ (by omega) rfl,cell 4 _ (by omega) rfl,f,cell 5 _ (by omega) rfl,IntsAt.of_owns (hf.2 j x _ hj hfj)⟩
end Go.Proofs.Cz
end
section
namespace Go.Proofs.Cz
open Go.RowKit
def RetBk (w:World) (b:Book) (e:Ending) (w':World):Prop:=(∃ v,e=.returned v∧BookAt w' v b)∧Below w.heap.size w w'
theorem Box.below {A w':World} {B g:Nat} {t:TypeId} {cs:Array Value} (h:Box A g t cs) (k:Below B A w') (hg:g < B):Box w' g t cs:=(k.block g hg).trans h
def OnlyAt (w A5:World) (b:Book) (p k:Int) (v3:Value) (i:Nat) (pv:Value) (wr:World):Prop :=
  ∃ fs,Box wr (w.heap.size + 1 + 1) 26 #[.int .i64 b.beat,.int .i64 b.places,pv,v3,.slice none 0 0]∧wr.ownsRow (w.heap.size + 3) 34 6 pv (onlyTo b.parts p k i).length (partsC (onlyTo b.parts p k i) fs) ∧
    FitsAt wr (onlyTo b.parts p k i) fs∧Below (w.heap.size + 2) A5 wr∧A5.heap.size ≤ wr.heap.size
theorem box_new {w:World} {P:Nat} {t:TypeId} {cs:Array Value} (h:Box w P t cs):∀ j u,cs.toList[j]?=some u→w.cell? ((⟨P,0,none⟩:Addr).add j)=some u:=fun j u hu=>by
  have hadd:(⟨P,0,none⟩:Addr).add j=⟨P,j,none⟩:=by unfold Addr.add;split <;> simp_all
  rw [hadd]
  exact h.cell j (by simpa using hu)
theorem part_one (s:ByteArray) (a b c d:Int) (fa:Option Addr) (n m:Nat):∀ u ∈ [Value.string s,.int .i64 a,.int .i64 b,.int .i64 c,.int .i64 d,.slice fa n m],u.oneCell'=true:=fun u h=>by
  simp at h
  rcases h with rfl | rfl | rfl | rfl | rfl | rfl <;> rfl
theorem ownsRow_on3 {W W':World} {B:Nat} {s:Nat} {v:Value} {n:Nat} {xs:List Value} (h:W.ownsRow B 3 s v n xs) (hk:∀ (k:Nat) (cur:Array Value),W.heap[k]?=some (Obj.cells cur 3 (0,0))→W'.heap[k]?=W.heap[k]?):W'.ownsRow B 3 s v n xs:=by
  obtain ⟨h1,h2⟩:=h
  refine ⟨h1,?_⟩
  rcases h2 with h2 | ⟨g,cap,cur,rfl,hg,hh,r⟩
  · exact .inl h2
  · exact .inr ⟨g,cap,cur,rfl,hg,(hk g _ hh).trans hh,r⟩
theorem info34:(Tz.prog.info? 34).map (fun i=>(i.zero,i.size,i.bytes))=some (some (.agg #[.string .empty,.int .i64 0,.int .i64 0,.int .i64 0,.int .i64 0,.slice none 0 0]),6,72):=by kernel_rfl
theorem under22:Tz.prog.underlying 22=some (.slice 34):=by rw [Tz.under];exact Tryz.underlying22
set_option maxHeartbeats 1000000 in
set_option maxRecDepth 20000 in
theorem only_any (w:World) (v:Value) (b:Book) (p k:Int) (hb:BookAt w v b) (hm:b.parts.length ≤ 5) (hfl:∀ (i:Nat) (x:Part),b.parts[i]?=some x→x.fits.length ≤ 1000):Calls Tz.prog 32 #[v,.int .i64 p,.int .i64 k] w (RetBk w (onlyOf b p k)):=by
  obtain ⟨v2,v3,v4,rfl,⟨a2,c2,h2,f2⟩,h3,h4⟩:=hb
  have H2:Hid (SlAt w v2 b.parts.length a2 c2∧_):=⟨h2,f2⟩
  have H3:Hid (PairsAt w v3 b.apart):=h3
  obtain ⟨rfl,l2,m2,n2,r2⟩:=h2
  unfold maxLen at m2
  obtain ⟨a3,c3,⟨rfl,_,_,_,_⟩,_⟩:=h3
  obtain ⟨a4,c4,⟨rfl,_,_,_,_⟩,_⟩:=h4
  clear r2 f2 n2
  obtain ⟨A1,hA1⟩:∃ A,w.alloc (.cells #[.int .i64 b.beat,.int .i64 b.places,.slice a2 b.parts.length c2,.slice a3 b.apart.length c3,.slice a4 b.trials.length c4] 26)=A:=⟨_,rfl⟩
  obtain ⟨A2,hA2⟩:∃ A,A1.alloc (.cells #[.int .i64 0,.int .i64 0,.slice none 0 0,.slice none 0 0,.slice none 0 0] 26)=A:=⟨_,rfl⟩
  obtain ⟨A3,hA3⟩:∃ A,A2.alloc (.cells #[.int .i64 b.beat,.int .i64 b.places,.slice a2 b.parts.length c2,.slice a3 b.apart.length c3,.slice a4 b.trials.length c4] 26)=A:=⟨_,rfl⟩
  have hs1:A1.heap.size=w.heap.size + 1:=by rw [← hA1];simp
  have hs2:A2.heap.size=w.heap.size + 1 + 1:=by rw [← hA2];simp [hs1]
  have hs3:A3.heap.size=w.heap.size + 3:=by rw [← hA3];simp [hs2]
  have b1:Box A1 w.heap.size 26 #[.int .i64 b.beat,.int .i64 b.places,.slice a2 b.parts.length c2,.slice a3 b.apart.length c3,.slice a4 b.trials.length c4]:=by rw [← hA1];exact Box.new _ _ _
  have b1':Box A2 w.heap.size 26 #[.int .i64 b.beat,.int .i64 b.places,.slice a2 b.parts.length c2,.slice a3 b.apart.length c3,.slice a4 b.trials.length c4]:=by rw [← hA2];exact (Keep.alloc [] _ _).box b1 (by simp)
  have z0:A2.cell? ⟨w.heap.size,0,none⟩=some (.int .i64 b.beat):=b1'.cell 0 rfl
  have z1:A2.cell? ⟨w.heap.size,1,none⟩=some (.int .i64 b.places):=b1'.cell 1 rfl
  have z2:A2.cell? ⟨w.heap.size,2,none⟩=some (.slice a2 b.parts.length c2):=b1'.cell 2 rfl
  have z3:A2.cell? ⟨w.heap.size,3,none⟩=some (.slice a3 b.apart.length c3):=b1'.cell 3 rfl
  have z4:A2.cell? ⟨w.heap.size,4,none⟩=some (.slice a4 b.trials.length c4):=b1'.cell 4 rfl
  have b7:Box A3 (w.heap.size + 1 + 1) 26 #[.int .i64 b.beat,.int .i64 b.places,.slice a2 b.parts.length c2,.slice a3 b.apart.length c3,.slice a4 b.trials.length c4]:=by rw [← hA3,← hs2];exact Box.new _ _ _
  have y2:A3.cell? ⟨w.heap.size + 1 + 1,2,none⟩=some (.slice a2 b.parts.length c2):=b7.cell 2 rfl
  have g2:A3.frozen? ⟨w.heap.size + 1 + 1,2,none⟩=false:=b7.warm 2
  obtain ⟨A4,hA4⟩:∃ A,A3.setCell ⟨w.heap.size + 1 + 1,2,none⟩ (.slice none 0 0)=A:=⟨_,rfl⟩
  have b7':Box A4 (w.heap.size + 1 + 1) 26 #[.int .i64 b.beat,.int .i64 b.places,.slice none 0 0,.slice a3 b.apart.length c3,.slice a4 b.trials.length c4]:=by rw [← hA4];exact b7.set 2 _
  have y4:A4.cell? ⟨w.heap.size + 1 + 1,4,none⟩=some (.slice a4 b.trials.length c4):=b7'.cell 4 rfl
  have g4:A4.frozen? ⟨w.heap.size + 1 + 1,4,none⟩=false:=b7'.warm 4
  obtain ⟨A5,hA5⟩:∃ A,A4.setCell ⟨w.heap.size + 1 + 1,4,none⟩ (.slice none 0 0)=A:=⟨_,rfl⟩
  have HB7:Hid (Box A5 (w.heap.size + 1 + 1) 26 #[.int .i64 b.beat,.int .i64 b.places,.slice none 0 0,.slice a3 b.apart.length c3,.slice none 0 0]):=(by rw [← hA5];exact b7'.set 4 _)
  have hk3:Keep [] A2 A3:=by rw [← hA3];exact Keep.alloc _ _ _
  have hk5:Keep [w.heap.size + 1 + 1] A3 A5:=by rw [← hA5,← hA4];exact (Keep.set A3 (by simp) _).trans' (Keep.set _ (by simp) _)
  have hk25:Keep [w.heap.size + 1 + 1] A2 A5:=(hk3.mono (by simp)).trans' hk5
  have HB1:Hid (Box A5 w.heap.size 26 #[.int .i64 b.beat,.int .i64 b.places,.slice a2 b.parts.length c2,.slice a3 b.apart.length c3,.slice a4 b.trials.length c4]):=hk25.box b1' (by simp;omega)
  have HB6:Hid (Box A5 (w.heap.size + 1) 26 #[.int .i64 0,.int .i64 0,.slice none 0 0,.slice none 0 0,.slice none 0 0]):=hk25.box (by rw [← hA2,← hs1];exact Box.new _ _ _) (by simp)
  have HW5:Hid (Below w.heap.size w A5):=(Keep.trans (O:=[]) (W1:=A2) (by rw [← hA2,← hA1];exact (Keep.alloc _ _ _).allocs _) hk25 (by simp;omega)).below (by simp) (Nat.le_refl _)
  have hs5:A5.heap.size=w.heap.size + 3:=by rw [← hA5,← hA4];simp [World.setCell,hs3]
  clear b1 b1' b7 b7' hk3 hk5 hk25
  go_enter Tz.func32,Tz.ntmps32
  go_wp2
  clear hA1 hA2 hA3 hA4 hA5 hs1 hs2 hs3 z0 z1 z2 z3 z4 y2 g2 y4 g4
  obtain ⟨i0,hi,hz0,hz1,hz2⟩:=info_parts info3
  obtain ⟨i4,hj,hj0,hj1,hj2⟩:=info_parts info34
  go_loopw [8,9,10,11] (fun i _ _ _ wr=>∃ n pv,n ≤ b.parts.length∧i=.int .i64 (n:Nat)∧Hid (OnlyAt w A5 b p k (.slice a3 b.apart.length c3) n pv wr)) (fun i _ _ _ _=>b.parts.length - (intOf i).toNat)
  case atStart=>exact ⟨0,.slice none 0 0,Nat.zero_le _,rfl,(⟨[],HB7.out,World.ownsRow_nil _ _ _ _,⟨rfl,fun _ _ _ h=>by simp [onlyTo] at h⟩,Below.refl _ _,Nat.le_refl _⟩:OnlyAt _ _ _ _ _ _ _ _ _)⟩
  case round =>
    obtain ⟨wo,rfl⟩:∃ wo,wo=wr:=⟨wr,rfl⟩
    obtain ⟨n,pv,hn,rfl,hL⟩:=hrel
    have HK:Hid (Below (w.heap.size + 2) A5 wo∧A5.heap.size ≤ wo.heap.size):=(let ⟨fs,_,_,_,h1,h2⟩:=hL.out;⟨h1,h2⟩)
    have HKp:Hid (Below w.heap.size w wo):=HW5.out.trans (HK.out.1.mono (by omega))
    have HBr:Hid (Box wo w.heap.size 26 #[.int .i64 b.beat,.int .i64 b.places,.slice a2 b.parts.length c2,.slice a3 b.apart.length c3,.slice a4 b.trials.length c4]):=HB1.out.below HK.out.1 (by omega)
    have z2:wo.cell? ⟨w.heap.size,2,none⟩=some (.slice a2 b.parts.length c2):=HBr.out.cell 2 rfl
    by_cases hlt:n < b.parts.length
    · obtain ⟨⟨blk,off,sp⟩,x,rfl,hx,x0,x1,x2,x3,x4,vf,x5,x6⟩:=H2.out.1.elem H2.out.2 hlt
      obtain rfl:sp=none:=x0.1
      have hK1:=Kp.of HKp.out
      obtain ⟨af,cf,hf,hfE⟩:=x6
      have H7:Hid (SlAt w vf x.fits.length af cf∧_):=⟨hf,hfE⟩
      obtain ⟨rfl,lf,mf,_,_⟩:=hf
      have y0:=(x0.later hK1).2
      have y1:=(x1.later hK1).2
      have y2:=(x2.later hK1).2
      have y3:=(x3.later hK1).2
      have y4:=(x4.later hK1).2
      have y5:=(x5.later hK1).2
      simp only [← Nat.add_assoc] at y0 y1 y2 y3 y4 y5
      have HX:Hid (b.parts[n]?=some x):=hx
      have HY5:Hid (wo.cell? ⟨blk,off + n * 6 + 5,none⟩=some (.slice af x.fits.length cf)∧blk < wo.heap.size):=⟨y5,(x5.later hK1).lt⟩
      have hfl1:=hfl n x HX.out
      have hcf:Hid (cf ≤ maxLen):=mf
      clear mf
      clear x0 x1 x2 x3 x4 x5 hfE hx hK1
      obtain ⟨C1,hC1⟩:∃ C,wo.alloc (.cells #[.string x.name,.int .i64 x.cost,.int .i64 x.stock,.int .i64 x.lo,.int .i64 x.hi,.slice af x.fits.length cf] 34)=C:=⟨_,rfl⟩
      have d1:Box C1 wo.heap.size 34 #[.string x.name,.int .i64 x.cost,.int .i64 x.stock,.int .i64 x.lo,.int .i64 x.hi,.slice af x.fits.length cf]:=by rw [← hC1];exact Box.new _ _ _
      have e5:C1.cell? ⟨wo.heap.size,5,none⟩=some (.slice af x.fits.length cf):=d1.cell 5 rfl
      have e6:C1.frozen? ⟨wo.heap.size,5,none⟩=false:=d1.warm 5
      obtain ⟨C2,hC2⟩:∃ C,C1.setCell ⟨wo.heap.size,5,none⟩ (.slice none 0 0)=C:=⟨_,rfl⟩
      have HD2:Hid (Box C2 wo.heap.size 34 #[.string x.name,.int .i64 x.cost,.int .i64 x.stock,.int .i64 x.lo,.int .i64 x.hi,.slice none 0 0]):=(by rw [← hC2];exact d1.set 5 _)
      have HBC:Hid (Below wo.heap.size wo C2):=(by rw [← hC2,← hC1];exact ((Below.refl _ _).alloc (Nat.le_refl _) _).setCell (p:=⟨wo.heap.size,5,none⟩) (Nat.le_refl _) _)
      have HS2:Hid (wo.heap.size + 1 ≤ C2.heap.size):=(by rw [← hC2,← hC1];show _ ≤ _;simp [World.setCell])
      clear d1
      go_wp2
      clear hC1 hC2 e5 e6 y0 y1 y2 y3 y4 y5 z2
      go_loopw [10,11] (fun j _ w2=>∃ m:Nat,m ≤ x.fits.length∧j=.int .i64 m∧Hid (Below wo.heap.size wo w2∧wo.heap.size + 1 ≤ w2.heap.size∧∃ fv,Box w2 wo.heap.size 34 #[.string x.name,.int .i64 x.cost,.int .i64 x.stock,.int .i64 x.lo,.int .i64 x.hi,fv] ∧
        w2.ownsRow (wo.heap.size + 1) 3 1 fv (keepTo x.fits p k n m).length ((keepTo x.fits p k n m).map (Value.int .i64)))) (fun j _ _=>x.fits.length - (intOf j).toNat)
      case atStart=>exact ⟨0,Nat.zero_le _,rfl,(⟨HBC.out,HS2.out,.slice none 0 0,HD2.out,World.ownsRow_nil _ _ _ _⟩:_∧_∧∃ fv,_)⟩
      case round =>
        obtain ⟨w2,rfl⟩:∃ w2,w2=wr:=⟨wr,rfl⟩
        obtain ⟨m,hm2,rfl,hM⟩:=hrel
        obtain ⟨fv,hfv⟩:∃ fv,Hid (Box w2 wo.heap.size 34 #[.string x.name,.int .i64 x.cost,.int .i64 x.stock,.int .i64 x.lo,.int .i64 x.hi,fv] ∧
          w2.ownsRow (wo.heap.size + 1) 3 1 fv (keepTo x.fits p k n m).length ((keepTo x.fits p k n m).map (Value.int .i64))):=(let ⟨_,_,fv,h1,h2⟩:=hM.out;⟨fv,h1,h2⟩)
        have hs2:wo.heap.size + 1 ≤ w2.heap.size:=hM.out.2.1
        have z2:w2.cell? ⟨w.heap.size,2,none⟩=some (.slice (some ⟨blk,off,none⟩) b.parts.length c2):=(HBr.out.below hM.out.1 HBr.out.lt).cell 2 rfl
        have y5:w2.cell? ⟨blk,off + n * 6 + 5,none⟩=some (.slice af x.fits.length cf):=(hM.out.1.cell (p:=⟨blk,off + n * 6 + 5,none⟩) HY5.out.2).trans HY5.out.1
        have hkl:=keepTo_len x.fits p k n m
        have cv:w2.cell? ⟨wo.heap.size,5,none⟩=some fv:=hfv.out.1.cell 5 rfl
        by_cases hml:m < x.fits.length
        · obtain ⟨⟨fb,fo,fsp⟩,y,rfl,hy,q0⟩:=H7.out.1.elem H7.out.2 hml
          obtain rfl:fsp=none:=q0.1
          have q1:=(q0.later (Kp.trans (Kp.of HKp.out) (Kp.of hM.out.1) HKp.out.size)).2
          simp only at q1
          have HYm:Hid (x.fits[m]?=some y):=hy
          clear hy q0
          have hn5:(n:Int) < (b.parts.length:Int):=by omega
          have hm5:(m:Int) < (x.fits.length:Int):=by omega
          by_cases hyp:y=p
          · by_cases hik:(n:Int)=k
            · subst hik
              subst hyp
              have HNO:Hid (¬ (y=y∧(n:Int) ≠ (n:Int))):=fun h=>h.2 rfl
              go_wp2_with (at_builtin
                           refine wpList_append_own _ rfl (.tmp 57) (.tmp 59) 32 rfl (wo.heap.size + 1) 3 i0 (.int .i64 0) 1 8 under32 hi hz0 hz1 hz2 rfl (by decide) _ _ _ rfl (hfv.out.2.alloc _) ⟨_,0,none⟩ 1 1 [.int .i64 y] rfl rfl (one_new _ _ _) (one_int _) (by unfold maxLen;omega) (by omega) (by simp;omega) ?_
                           intro v' w3 hown' hgrow _
                           obtain ⟨g',cap',rfl⟩:=ownsRow_succ hown'
                           have HO3:Hid (w3.ownsRow (wo.heap.size + 1) 3 1 (.slice (some ⟨g',0,none⟩) ((keepTo x.fits y n n m).length + 1) cap') ((keepTo x.fits y n n m).length + 1) ((keepTo x.fits y n n m).map (Value.int .i64) ++ [.int .i64 y])):=hown'
                           have HB3:Hid (Box w3 wo.heap.size 34 #[.string x.name,.int .i64 x.cost,.int .i64 x.stock,.int .i64 x.lo,.int .i64 x.hi,fv]):=(hgrow.block _ (by simp;omega) (fun e=>by have:=owns_ge hfv.out.2 _ e.symm;omega)).trans ((Keep.alloc [] w2 _).box hfv.out.1 (by simp))
                           have HL3:Hid (Below wo.heap.size wo w3):=Below.grown (Below.alloc hM.out.1 (by omega) _) hgrow (by simp;omega) (fun k hk=>by have:=owns_ge hfv.out.2 _ hk;omega)
                           have HS3:Hid (w2.heap.size ≤ w3.heap.size):=(by have:=hgrow.size;simp at this;show _ ≤ _;omega)
                           have c3:w3.cell? ⟨wo.heap.size,5,none⟩=some fv:=HB3.out.cell 5 rfl
                           have f3:w3.frozen? ⟨wo.heap.size,5,none⟩=false:=HB3.out.warm 5
                           clear hown' hgrow)
              have HR3:Hid (Below wo.heap.size wo (w3.setCell ⟨wo.heap.size,5,none⟩ (.slice (some ⟨g',0,none⟩) ((keepTo x.fits y n n m).length + 1) cap'))∧wo.heap.size + 1 ≤ (w3.setCell ⟨wo.heap.size,5,none⟩ (.slice (some ⟨g',0,none⟩) ((keepTo x.fits y n n m).length + 1) cap')).heap.size ∧
                  ∃ fv,Box (w3.setCell ⟨wo.heap.size,5,none⟩ (.slice (some ⟨g',0,none⟩) ((keepTo x.fits y n n m).length + 1) cap')) wo.heap.size 34 #[.string x.name,.int .i64 x.cost,.int .i64 x.stock,.int .i64 x.lo,.int .i64 x.hi,fv] ∧
                    (w3.setCell ⟨wo.heap.size,5,none⟩ (.slice (some ⟨g',0,none⟩) ((keepTo x.fits y n n m).length + 1) cap')).ownsRow (wo.heap.size + 1) 3 1 fv (keepTo x.fits y n n (m + 1)).length ((keepTo x.fits y n n (m + 1)).map (Value.int .i64))):=by
                refine ⟨HL3.out.setCell (p:=⟨wo.heap.size,5,none⟩) (Nat.le_refl _) _,by have:=HS3.out;simp [World.setCell];omega,_,HB3.out.set 5 _,?_⟩
                rw [keepTo_yes HYm.out HNO.out,List.length_append,List.map_append]
                refine ownsRow_on HO3.out (fun k hk=>Below.heap_setCell _ _ _ _ ?_)
                have:=owns_ge HO3.out k hk
                show k ≠ wo.heap.size
                omega
              clear HO3 HB3 HL3 c3 f3
              go_round
              case rel=>exact ⟨m + 1,by omega,by go_num,HR3⟩
              case measure=>simp [intOf];omega
            · subst hyp
              have HNO:Hid (y=y∧(n:Int) ≠ k):=⟨rfl,hik⟩
              go_wp2
              go_round
              case rel=>exact ⟨m + 1,by omega,by go_num,(by rw [keepTo_no HYm.out HNO.out];exact hM.out)⟩
              case measure=>simp [intOf];omega
          · have HNO:Hid (¬ (y=p∧(n:Int) ≠ k)):=fun h=>hyp h.1
            go_wp2_with (at_builtin
                         refine wpList_append_own _ rfl (.tmp 57) (.tmp 59) 32 rfl (wo.heap.size + 1) 3 i0 (.int .i64 0) 1 8 under32 hi hz0 hz1 hz2 rfl (by decide) _ _ _ rfl (hfv.out.2.alloc _) ⟨_,0,none⟩ 1 1 [.int .i64 y] rfl rfl (one_new _ _ _) (one_int _) (by unfold maxLen;omega) (by omega) (by simp;omega) ?_
                         intro v' w3 hown' hgrow _
                         obtain ⟨g',cap',rfl⟩:=ownsRow_succ hown'
                         have HO3:Hid (w3.ownsRow (wo.heap.size + 1) 3 1 (.slice (some ⟨g',0,none⟩) ((keepTo x.fits p k n m).length + 1) cap') ((keepTo x.fits p k n m).length + 1) ((keepTo x.fits p k n m).map (Value.int .i64) ++ [.int .i64 y])):=hown'
                         have HB3:Hid (Box w3 wo.heap.size 34 #[.string x.name,.int .i64 x.cost,.int .i64 x.stock,.int .i64 x.lo,.int .i64 x.hi,fv]):=(hgrow.block _ (by simp;omega) (fun e=>by have:=owns_ge hfv.out.2 _ e.symm;omega)).trans ((Keep.alloc [] w2 _).box hfv.out.1 (by simp))
                         have HL3:Hid (Below wo.heap.size wo w3):=Below.grown (Below.alloc hM.out.1 (by omega) _) hgrow (by simp;omega) (fun k hk=>by have:=owns_ge hfv.out.2 _ hk;omega)
                         have HS3:Hid (w2.heap.size ≤ w3.heap.size):=(by have:=hgrow.size;simp at this;show _ ≤ _;omega)
                         have c3:w3.cell? ⟨wo.heap.size,5,none⟩=some fv:=HB3.out.cell 5 rfl
                         have f3:w3.frozen? ⟨wo.heap.size,5,none⟩=false:=HB3.out.warm 5
                         clear hown' hgrow)
            have HR3:Hid (Below wo.heap.size wo (w3.setCell ⟨wo.heap.size,5,none⟩ (.slice (some ⟨g',0,none⟩) ((keepTo x.fits p k n m).length + 1) cap'))∧wo.heap.size + 1 ≤ (w3.setCell ⟨wo.heap.size,5,none⟩ (.slice (some ⟨g',0,none⟩) ((keepTo x.fits p k n m).length + 1) cap')).heap.size ∧
                ∃ fv,Box (w3.setCell ⟨wo.heap.size,5,none⟩ (.slice (some ⟨g',0,none⟩) ((keepTo x.fits p k n m).length + 1) cap')) wo.heap.size 34 #[.string x.name,.int .i64 x.cost,.int .i64 x.stock,.int .i64 x.lo,.int .i64 x.hi,fv] ∧
                  (w3.setCell ⟨wo.heap.size,5,none⟩ (.slice (some ⟨g',0,none⟩) ((keepTo x.fits p k n m).length + 1) cap')).ownsRow (wo.heap.size + 1) 3 1 fv (keepTo x.fits p k n (m + 1)).length ((keepTo x.fits p k n (m + 1)).map (Value.int .i64))):=by
              refine ⟨HL3.out.setCell (p:=⟨wo.heap.size,5,none⟩) (Nat.le_refl _) _,by have:=HS3.out;simp [World.setCell];omega,_,HB3.out.set 5 _,?_⟩
              rw [keepTo_yes HYm.out HNO.out,List.length_append,List.map_append]
              refine ownsRow_on HO3.out (fun k hk=>Below.heap_setCell _ _ _ _ ?_)
              have:=owns_ge HO3.out k hk
              show k ≠ wo.heap.size
              omega
            clear HO3 HB3 HL3 c3 f3
            go_round
            case rel=>exact ⟨m + 1,by omega,by go_num,HR3⟩
            case measure=>simp [intOf];omega
        · have e:m=x.fits.length:=by omega
          subst e
          obtain ⟨fa,fc,rfl⟩:=ownsRow_slice hfv.out.2
          obtain ⟨fs,hp1,hp2,hp3,hp4,hp5⟩:=hL.out
          have HP2:Hid (w2.ownsRow (w.heap.size + 3) 34 6 pv (onlyTo b.parts p k n).length (partsC (onlyTo b.parts p k n) fs)):=ownsRow_on hp2 (fun j hj=>hM.out.1.block j (ownsRow_lt hp2 j hj).2)
          have HP1:Hid (Box w2 (w.heap.size + 1 + 1) 26 #[.int .i64 b.beat,.int .i64 b.places,pv,.slice a3 b.apart.length c3,.slice none 0 0]):=hp1.below hM.out.1 hp1.lt
          have HP3:Hid (FitsAt w2 (onlyTo b.parts p k n) fs):=hp3.on (fun j cur hj=>hM.out.1.block j (Array.getElem?_eq_some_iff.1 hj).1)
          have HP4:Hid (Below (w.heap.size + 2) A5 w2):=hp4.trans (hM.out.1.mono (by omega))
          have hol:=onlyTo_len (l:=b.parts) (p:=p) (k:=k) n hn
          have cp:w2.cell? ⟨w.heap.size + 1 + 1,2,none⟩=some pv:=HP1.out.cell 2 rfl
          have r0:w2.cell? ⟨wo.heap.size,0,none⟩=some (.string x.name):=hfv.out.1.cell 0 rfl
          have r1:w2.cell? ⟨wo.heap.size,1,none⟩=some (.int .i64 x.cost):=hfv.out.1.cell 1 rfl
          have r2:w2.cell? ⟨wo.heap.size,2,none⟩=some (.int .i64 x.stock):=hfv.out.1.cell 2 rfl
          have r3:w2.cell? ⟨wo.heap.size,3,none⟩=some (.int .i64 x.lo):=hfv.out.1.cell 3 rfl
          have r4:w2.cell? ⟨wo.heap.size,4,none⟩=some (.int .i64 x.hi):=hfv.out.1.cell 4 rfl
          have HF:Hid (w2.ownsRow 0 3 1 (.slice fa (keepTo x.fits p k n x.fits.length).length fc) (onlyPart p k n x).fits.length ((onlyPart p k n x).fits.map (Value.int .i64))):=ownsRow_base hfv.out.2 (Nat.zero_le _)
          have hz2:w.heap.size + 3 ≤ w2.heap.size:=by omega
          clear hp1 hp2 hp3 hp4 hp5
          go_wp2_with (at_builtin
                       refine wpList_append_own _ rfl (.tmp 63) (.tmp 65) 22 rfl (w.heap.size + 3) 34 i4 (.agg #[.string .empty,.int .i64 0,.int .i64 0,.int .i64 0,.int .i64 0,.slice none 0 0]) 6 72 under22 hj hj0 hj1 hj2 rfl (by decide) _ _ _ rfl (HP2.out.alloc _) ⟨w2.heap.size,0,none⟩ 1 1 [.string x.name,.int .i64 x.cost,.int .i64 x.stock,.int .i64 x.lo,.int .i64 x.hi,.slice fa (keepTo x.fits p k n x.fits.length).length fc] rfl rfl (box_new (Box.new w2 34 _)) (part_one _ _ _ _ _ _ _ _) (by unfold maxLen;omega) (by omega) (by simp;omega) ?_
                       intro v' w3 hown' hgrow _
                       obtain ⟨g',cap',rfl⟩:=ownsRow_succ hown'
                       have HO3:Hid (w3.ownsRow (w.heap.size + 3) 34 6 (.slice (some ⟨g',0,none⟩) ((onlyTo b.parts p k n).length + 1) cap') ((onlyTo b.parts p k n).length + 1) (partsC (onlyTo b.parts p k n) fs ++ partC (onlyPart p k n x) (.slice fa (keepTo x.fits p k n x.fits.length).length fc))):=hown'
                       have HG3:Hid (World.grownBy _ w3 pv.ownBlock):=hgrow
                       have HB3:Hid (Box w3 (w.heap.size + 1 + 1) 26 #[.int .i64 b.beat,.int .i64 b.places,pv,.slice a3 b.apart.length c3,.slice none 0 0]):=(hgrow.block _ (by simp;omega) (fun e=>by have:=owns_ge HP2.out _ e.symm;omega)).trans ((Keep.alloc [] w2 _).box HP1.out (by simp))
                       have c3':w3.cell? ⟨w.heap.size + 1 + 1,2,none⟩=some pv:=HB3.out.cell 2 rfl
                       have f3':w3.frozen? ⟨w.heap.size + 1 + 1,2,none⟩=false:=HB3.out.warm 2
                       have HS3:Hid (w2.heap.size ≤ w3.heap.size):=(by have:=hgrow.size;simp at this;show _ ≤ _;omega)
                       clear hown' hgrow)
          have HR3:Hid (OnlyAt w A5 b p k (.slice a3 b.apart.length c3) (n + 1) (.slice (some ⟨g',0,none⟩) (n + 1) cap') (w3.setCell ⟨w.heap.size + 1 + 1,2,none⟩ (.slice (some ⟨g',0,none⟩) (n + 1) cap'))):=by
            have hg':=owns_ge HO3.out g' rfl
            have T:∀ (j:Nat) (cur:Array Value),w2.heap[j]?=some (Obj.cells cur 3 (0,0))→(w3.setCell ⟨w.heap.size + 1 + 1,2,none⟩ (.slice (some ⟨g',0,none⟩) (n + 1) cap')).heap[j]?=w2.heap[j]?:=fun j cur hj=>by
              have hjl:j < w2.heap.size:=(Array.getElem?_eq_some_iff.1 hj).1
              refine (Below.heap_setCell _ _ _ _ ?_).trans ((HG3.out.block j (by simp;omega) ?_).trans (Below.heap_alloc w2 _ j hjl))
              · intro e
                have h1:w2.heap[w.heap.size + 1 + 1]?=_:=HP1.out
                rw [show j=w.heap.size + 1 + 1 from e,h1] at hj
                simp at hj
              · intro e
                obtain ⟨_,⟨rfl,_⟩ | ⟨g,cap,cu,rfl,_,hh,_⟩⟩:=HP2.out
                · cases e
                · cases e
                  rw [hh] at hj
                  simp at hj
            refine ⟨fs ++ [.slice fa (keepTo x.fits p k n x.fits.length).length fc],HB3.out.set 2 _,?_,?_,?_,?_⟩
            · rw [onlyTo_succ HX.out,partsC_snoc _ _ _ _ HP3.out.1,List.length_append,hol]
              have h1:=HO3.out
              rw [hol] at h1
              refine ownsRow_on h1 (fun j hj=>Below.heap_setCell _ _ _ _ ?_)
              cases hj
              show g' ≠ w.heap.size + 1 + 1
              omega
            · rw [onlyTo_succ HX.out]
              exact (HP3.out.on T).snoc (ownsRow_on3 HF.out T)
            · exact Below.setCell (Below.grown (Below.alloc HP4.out (by omega) _) HG3.out (by simp;omega) (fun j hj=>by have:=owns_ge HP2.out j hj;omega)) (p:=⟨w.heap.size + 1 + 1,2,none⟩) (by show w.heap.size + 2 ≤ w.heap.size + 1 + 1;omega) _
            · have h1:=HK.out.2
              have h2:=HS3.out
              simp only [World.setCell,Array.size_modify]
              omega
          clear HO3 HG3 HB3 HS3 HF HP1 HP2 HP3 HP4 c3' f3' r0 r1 r2 r3 r4 cp
          go_round
          case rel=>exact ⟨n + 1,_,by omega,by go_num,HR3⟩
          case measure=>simp [intOf];omega
    · have e:n=b.parts.length:=by omega
      subst e
      obtain ⟨fs,hp1,hp2,hp3,hp4,hp5⟩:=hL.out
      obtain ⟨pa,pc,rfl⟩:=ownsRow_slice hp2
      have HP1:Hid (Box wo (w.heap.size + 1 + 1) 26 #[.int .i64 b.beat,.int .i64 b.places,.slice pa (onlyTo b.parts p k b.parts.length).length pc,.slice a3 b.apart.length c3,.slice none 0 0]):=hp1
      have HP6:Hid (Box wo (w.heap.size + 1) 26 #[.int .i64 0,.int .i64 0,.slice none 0 0,.slice none 0 0,.slice none 0 0]):=HB6.out.below hp4 (by omega)
      have HPO:Hid (wo.ownsRow (w.heap.size + 3) 34 6 (.slice pa (onlyTo b.parts p k b.parts.length).length pc) (onlyTo b.parts p k b.parts.length).length (partsC (onlyTo b.parts p k b.parts.length) fs)):=hp2
      have HPF:Hid (FitsAt wo (onlyTo b.parts p k b.parts.length) fs):=hp3
      have r0:wo.cell? ⟨w.heap.size + 1 + 1,0,none⟩=some (.int .i64 b.beat):=HP1.out.cell 0 rfl
      have r1:wo.cell? ⟨w.heap.size + 1 + 1,1,none⟩=some (.int .i64 b.places):=HP1.out.cell 1 rfl
      have r2:wo.cell? ⟨w.heap.size + 1 + 1,2,none⟩=some (.slice pa (onlyTo b.parts p k b.parts.length).length pc):=HP1.out.cell 2 rfl
      have r3:wo.cell? ⟨w.heap.size + 1 + 1,3,none⟩=some (.slice a3 b.apart.length c3):=HP1.out.cell 3 rfl
      have r4:wo.cell? ⟨w.heap.size + 1 + 1,4,none⟩=some (.slice none 0 0):=HP1.out.cell 4 rfl
      have s0:wo.cell? ⟨w.heap.size + 1,0,none⟩=some (.int .i64 0):=HP6.out.cell 0 rfl
      have s1:wo.cell? ⟨w.heap.size + 1,1,none⟩=some (.int .i64 0):=HP6.out.cell 1 rfl
      have s2:wo.cell? ⟨w.heap.size + 1,2,none⟩=some (.slice none 0 0):=HP6.out.cell 2 rfl
      have s3:wo.cell? ⟨w.heap.size + 1,3,none⟩=some (.slice none 0 0):=HP6.out.cell 3 rfl
      have s4:wo.cell? ⟨w.heap.size + 1,4,none⟩=some (.slice none 0 0):=HP6.out.cell 4 rfl
      have fz0:=HP6.out.warm 0
      have fz1:=HP6.out.warm 1
      have fz2:=HP6.out.warm 2
      have fz3:=HP6.out.warm 3
      have fz4:=HP6.out.warm 4
      clear hp1 hp2 hp3 hp4 hp5 hL
      go_wp2
      obtain ⟨WF,hWF⟩:∃ W,((((wo.setCell ⟨w.heap.size + 1,0,none⟩ (.int .i64 b.beat)).setCell ⟨w.heap.size + 1,1,none⟩ (.int .i64 b.places)).setCell ⟨w.heap.size + 1,2,none⟩ (.slice pa (onlyTo b.parts p k b.parts.length).length pc)).setCell
        ⟨w.heap.size + 1,3,none⟩ (.slice a3 b.apart.length c3)).setCell ⟨w.heap.size + 1,4,none⟩ (.slice none 0 0)=W:=⟨_,rfl⟩
      have HBF:Box WF (w.heap.size + 1) 26 #[.int .i64 b.beat,.int .i64 b.places,.slice pa (onlyTo b.parts p k b.parts.length).length pc,.slice a3 b.apart.length c3,.slice none 0 0]:=by
        rw [← hWF];exact ((((HP6.out.set 0 _).set 1 _).set 2 _).set 3 _).set 4 _
      have hKF:Keep [w.heap.size + 1] wo WF:=by
        rw [← hWF];exact ((((Keep.set wo (by simp) _).trans' (Keep.set _ (by simp) _)).trans' (Keep.set _ (by simp) _)).trans' (Keep.set _ (by simp) _)).trans' (Keep.set _ (by simp) _)
      have HBW:Below w.heap.size w WF:=HKp.out.trans (hKF.below (by simp) HKp.out.size)
      have q0:WF.cell? ⟨w.heap.size + 1,0,none⟩=some (.int .i64 b.beat):=HBF.cell 0 rfl
      have q1:WF.cell? ⟨w.heap.size + 1,1,none⟩=some (.int .i64 b.places):=HBF.cell 1 rfl
      have q2:WF.cell? ⟨w.heap.size + 1,2,none⟩=some (.slice pa (onlyTo b.parts p k b.parts.length).length pc):=HBF.cell 2 rfl
      have q3:WF.cell? ⟨w.heap.size + 1,3,none⟩=some (.slice a3 b.apart.length c3):=HBF.cell 3 rfl
      have q4:WF.cell? ⟨w.heap.size + 1,4,none⟩=some (.slice none 0 0):=HBF.cell 4 rfl
      rw [hWF]
      have hne:∀ j cur,wo.heap[j]?=some (Obj.cells cur 3 (0,0))→WF.heap[j]?=wo.heap[j]?:=fun j cur hj=>hKF.block j (Array.getElem?_eq_some_iff.1 hj).1 (by
        intro e
        simp at e
        have h1:wo.heap[w.heap.size + 1]?=_:=HP6.out
        rw [e,h1] at hj
        simp at hj)
      have HBk:Hid (BookAt WF (.agg #[.int .i64 b.beat,.int .i64 b.places,.slice pa (onlyTo b.parts p k b.parts.length).length pc,.slice a3 b.apart.length c3,.slice none 0 0]) (onlyOf b p k)):=by
        refine ⟨_,_,_,rfl,PartsAt.of_owns (ownsRow_on HPO.out fun j hj=>?_) (HPF.out.on hne),H3.out.later (Kp.of HBW),none,0,⟨rfl,Nat.le_refl _,by unfold maxLen;omega,fun _=>rfl,(fun b hb=>by cases hb)⟩,fun b hb=>by cases hb⟩
        have:=ownsRow_lt HPO.out j hj
        exact hKF.block j this.2 (by simp;omega)
      have HW:Hid (Below w.heap.size w WF):=HBW
      clear hWF HBF hKF HBW hne
      refine bodyPost_ret (v:=.agg #[.int .i64 b.beat,.int .i64 b.places,.slice pa (onlyTo b.parts p k b.parts.length).length pc,.slice a3 b.apart.length c3,.slice none 0 0]) ?_ rfl ⟨⟨_,rfl,HBk.out⟩,HW.out⟩
      rw [results_cell rfl]
      go_simp
end Go.Proofs.Cz
end
section
namespace Go.Proofs.Cz
open Go.RowKit
theorem rising_iff {l:List Int} {n:Int}:Rising l n ↔ (∀ y ∈ l,0 ≤ y∧y ≤ n - 1)∧l.Pairwise (· < ·):=by
  constructor
  · intro h
    refine ⟨fun y hy=>?_,?_⟩
    · obtain ⟨j,hj,rfl⟩:=List.getElem_of_mem hy
      have:=h j _ hj (List.getElem?_eq_getElem hj)
      exact ⟨this.1,this.2.1⟩
    · rw [List.pairwise_iff_getElem]
      have step:∀ (d i:Nat) (hi:i < l.length) (hj:i + d + 1 < l.length),l[i] < l[i + d + 1]:=by
        intro d
        induction d with
        | zero=>exact fun i hi hj=>(h (i + 1) _ hj (List.getElem?_eq_getElem hj)).2.2 _ (by omega) (List.getElem?_eq_getElem hi)
        | succ d ih =>
          intro i hi hj
          have h1:=ih i hi (by omega)
          have h2:=(h (i + (d + 1) + 1) _ hj (List.getElem?_eq_getElem hj)).2.2 (l[i + d + 1]'(by omega)) (by omega) (List.getElem?_eq_getElem (by omega))
          omega
      intro i j hi hj hij
      obtain ⟨d,rfl⟩:∃ d,j=i + d + 1:=⟨j - i - 1,by omega⟩
      exact step d i hi hj
  · rintro ⟨h1,h2⟩ j y hj hy
    have hm:=h1 y (List.mem_of_getElem? hy)
    refine ⟨hm.1,hm.2,fun z hz hz2=>?_⟩
    rw [List.pairwise_iff_getElem] at h2
    obtain ⟨hj2,rfl⟩:=List.getElem?_eq_some_iff.1 hy
    obtain ⟨hj3,rfl⟩:=List.getElem?_eq_some_iff.1 hz2
    exact h2 (j - 1) j hj3 hj2 (by omega)
theorem rising_len {l:List Int} {n:Int} (hn:0 ≤ n) (h:Rising l n):(l.length:Int) ≤ n:=by
  have step:∀ j (hj:j < l.length),(j:Int) ≤ l[j]:=by
    intro j
    induction j with
    | zero=>exact fun hj=>(h 0 _ hj (List.getElem?_eq_getElem hj)).1
    | succ j ih =>
      intro hj
      have h1:=ih (by omega)
      have h2:=(h (j + 1) _ hj (List.getElem?_eq_getElem hj)).2.2 (l[j]'(by omega)) (by omega) (List.getElem?_eq_getElem (by omega))
      omega
  by_cases e:l.length=0
  · omega
  · have h1:=step (l.length - 1) (by omega)
    have h2:=(h (l.length - 1) _ (by omega) (List.getElem?_eq_getElem (by omega))).2.1
    omega
theorem mem_canTo {p x:Int} {l:List Part}:∀ {k:Nat},x ∈ canTo p l k ↔ ∃ i:Nat,i < k∧x=i∧∃ y,l[i]?=some y∧p ∈ y.fits
  | 0=>by simp [canTo]
  | k + 1=>by
    rw [canTo,List.mem_append,mem_canTo]
    constructor
    · rintro (⟨i,hi,h⟩ | h)
      · exact ⟨i,by omega,h⟩
      · cases hk:l[k]? with
        | none=>simp [hk] at h
        | some y =>
          simp only [hk] at h
          split at h
          · simp at h
            exact ⟨k,by omega,h,y,hk,by assumption⟩
          · simp at h
    · rintro ⟨i,hi,rfl,y,hy,hp⟩
      by_cases e:i=k
      · subst e
        right
        simp [hy,hp]
      · exact .inl ⟨i,by omega,rfl,y,hy,hp⟩
theorem canTo_sorted {p:Int} {l:List Part}:∀ k:Nat,(canTo p l k).Pairwise (· < ·)
  | 0=>List.Pairwise.nil
  | k + 1=>by
    rw [canTo,List.pairwise_append]
    refine ⟨canTo_sorted k,?_,?_⟩
    · split
      · split <;> simp
      · simp
    · intro a ha b hb
      obtain ⟨i,hi,rfl,_⟩:=mem_canTo.1 ha
      have:b=k:=by
        split at hb
        · split at hb
          · simpa using hb
          · simp at hb
        · simp at hb
      omega
theorem can_rising (b:Book) (p:Int):Rising (canL b p) b.parts.length:=by
  rw [rising_iff]
  refine ⟨fun y hy=>?_,canTo_sorted _⟩
  obtain ⟨i,hi,rfl,_⟩:=mem_canTo.1 hy
  omega
theorem keepTo_eq (l:List Int) (p k i:Int):∀ j,keepTo l p k i j=(l.take j).filter fun n=>decide (¬ (n=p∧i ≠ k))
  | 0=>by simp [keepTo]
  | j + 1=>by
    rw [keepTo,keepTo_eq l p k i j,List.take_add_one,List.filter_append]
    cases hj:l[j]? with
    | none=>simp
    | some n =>
      by_cases e:n=p∧i ≠ k
      · simp [e]
      · simp only [if_neg e,Option.toList_some,List.filter_cons,e,List.filter_nil]
        simp
theorem onlyTo_get {l:List Part} {p k:Int} {j:Nat}:∀ {i:Nat},i ≤ l.length→j < i→∀ {x:Part},l[j]?=some x→(onlyTo l p k i)[j]?=some (onlyPart p k j x)
  | i + 1,hi,hj,x,hx=>by
    have hy:l[i]?=some l[i]:=List.getElem?_eq_getElem (by omega)
    rw [onlyTo_succ hy]
    by_cases e:j=i
    · subst e
      rw [List.getElem?_append_right (by rw [onlyTo_len j (by omega)];exact Nat.le_refl _),onlyTo_len j (by omega)]
      have:x=l[j]:=by rw [hx] at hy;exact Option.some.inj hy
      subst this
      simp
    · rw [List.getElem?_append_left (by rw [onlyTo_len i (by omega)];omega)]
      exact onlyTo_get (by omega) (by omega) hx
theorem onlyOf_get {b:Book} {p k:Int} {j:Nat} {x:Part} (hx:b.parts[j]?=some x):(onlyOf b p k).parts[j]?=some (onlyPart p k j x) :=
  onlyTo_get (Nat.le_refl _) (List.getElem?_eq_some_iff.1 hx).1 hx
theorem onlyOf_len (b:Book) (p k:Int):(onlyOf b p k).parts.length=b.parts.length:=onlyTo_len _ (Nat.le_refl _)
theorem onlyOf_inv {b:Book} {p k:Int} {j:Nat} {y:Part} (hy:(onlyOf b p k).parts[j]?=some y):∃ x,b.parts[j]?=some x∧y=onlyPart p k j x:=by
  have hj:j < b.parts.length:=by have:=(List.getElem?_eq_some_iff.1 hy).1;rwa [onlyOf_len] at this
  refine ⟨_,List.getElem?_eq_getElem hj,?_⟩
  have:=onlyOf_get (p:=p) (k:=k) (List.getElem?_eq_getElem hj)
  rw [this] at hy
  exact (Option.some.inj hy).symm
theorem onlyPart_fits (p k:Int) (i:Nat) (x:Part):(onlyPart p k i x).fits=x.fits.filter fun n=>decide (¬ (n=p∧(i:Int) ≠ k)):=by
  show keepTo _ _ _ _ _=_
  rw [keepTo_eq,List.take_length]
theorem only_valid {b:Book} (hv:Valid b) (p k:Int):Valid (onlyOf b p k):=by
  refine ⟨hv.beat,hv.places,⟨by rw [onlyOf_len];exact hv.parts.many,?_⟩,⟨hv.pairs.many,?_⟩,Nat.zero_le _,TrialsTo.zero _⟩
  · intro j y hj hy
    obtain ⟨x,hx,rfl⟩:=onlyOf_inv hy
    have h:=hv.parts.all j x (List.getElem?_eq_some_iff.1 hx).1 hx
    refine ⟨⟨h.1.name,h.1.cost,h.1.stock,h.1.time,h.1.wide,?_⟩,fun i z hi hz=>?_⟩
    · have hr:=rising_iff.1 h.1.rise
      rw [onlyPart_fits,rising_iff]
      exact ⟨fun y hy=>hr.1 y (List.mem_filter.1 hy).1,hr.2.filter _⟩
    · obtain ⟨x',hx',rfl⟩:=onlyOf_inv hz
      exact h.2 i x' hi hx'
  · have:=hv.pairs.all
    rw [onlyOf_len]
    exact this
theorem fits_len {b:Book} (hv:Valid b):∀ (i:Nat) (x:Part),b.parts[i]?=some x→x.fits.length ≤ 1000:=fun i x hx=>by
  have h:=(hv.parts.all i x (List.getElem?_eq_some_iff.1 hx).1 hx).1.rise
  have hp:=hv.places
  have:=rising_len (by omega) h
  omega
theorem canTo_only_ne {b:Book} {p k q:Int} (h:q ≠ p):∀ j,j ≤ b.parts.length→canTo q (onlyOf b p k).parts j=canTo q b.parts j
  | 0,_=>rfl
  | j + 1,hj=>by
    have hx:b.parts[j]?=some b.parts[j]:=List.getElem?_eq_getElem (by omega)
    rw [canTo,canTo,canTo_only_ne h j (by omega),onlyOf_get hx,hx]
    simp only [onlyPart_fits,List.mem_filter]
    simp [h]
theorem canL_only_ne {b:Book} {p k q:Int} (h:q ≠ p):canL (onlyOf b p k) q=canL b q:=by
  show canTo _ _ _=_
  rw [onlyOf_len]
  exact canTo_only_ne h _ (Nat.le_refl _)
theorem canTo_only_eq {b:Book} {p:Int} {k:Nat} {x:Part} (hx:b.parts[k]?=some x) (hp:p ∈ x.fits):∀ j,j ≤ b.parts.length→canTo p (onlyOf b p k).parts j=if k < j then [(k:Int)] else []
  | 0,_=>by simp [canTo]
  | j + 1,hj=>by
    have hy:b.parts[j]?=some b.parts[j]:=List.getElem?_eq_getElem (by omega)
    rw [canTo,canTo_only_eq hx hp j (by omega),onlyOf_get hy]
    simp only [onlyPart_fits,List.mem_filter]
    by_cases e:j=k
    · subst e
      rw [hx] at hy
      have:=Option.some.inj hy
      rw [← this]
      simp [hp]
    · have h0:¬ (j:Int)=(k:Int):=by omega
      rw [if_neg (show ¬ (p ∈ b.parts[j].fits∧decide (¬ (True∧(j:Int) ≠ (k:Int)))=true) by simp [h0]),List.append_nil]
      by_cases h:k < j
      · rw [if_pos h,if_pos (by omega)]
      · rw [if_neg h,if_neg (by omega)]
theorem canL_only_eq {b:Book} {p k:Int} (hk:k ∈ canL b p):canL (onlyOf b p k) p=[k]:=by
  obtain ⟨i,hi,rfl,x,hx,hp⟩:=mem_canTo.1 hk
  show canTo _ _ _=_
  rw [onlyOf_len,canTo_only_eq hx hp _ (Nat.le_refl _),if_pos hi]
theorem fill_past {b:Book} {p:Nat} {k:Int} {bit:Nat→Bool}:∀ (n q:Nat) (m:Nat→Int),p < q→fill (onlyOf b p k) bit n q m=fill b bit n q m
  | 0,_,_,_=>rfl
  | n + 1,q,m,h=>by
    by_cases hb:bit q=true
    · rw [fill_yes hb,fill_yes hb,canL_only_ne (by omega)]
      congr 1
      funext j
      unfold fillAt
      rw [fill_past n (q + 1) _ (by omega)]
      rfl
    · rw [fill_no hb,fill_no hb,fill_past n (q + 1) m (by omega)]
theorem sum_add (l:List Int) (f g:Int→Nat):(l.map fun x=>f x + g x).sum=(l.map f).sum + (l.map g).sum:=by
  induction l with
  | nil=>rfl
  | cons x l ih=>simp only [List.map_cons,List.sum_cons,ih];omega
theorem sum_zero (l:List Int):(l.map fun _=>0).sum=0:=by
  induction l with
  | nil=>rfl
  | cons x l ih=>simp only [List.map_cons,List.sum_cons,ih]
theorem sum_swap (l1 l2:List Int) (h:Int→Int→Nat):(l1.map fun j=>(l2.map fun k=>h j k).sum).sum=(l2.map fun k=>(l1.map fun j=>h j k).sum).sum:=by
  induction l1 with
  | nil=>simp only [List.map_nil,List.sum_nil];exact (sum_zero l2).symm
  | cons x l1 ih=>simp only [List.map_cons,List.sum_cons,ih,← sum_add]
open Classical in
theorem fill_sum {b:Book} {p N:Nat} {bit:Nat→Bool} (hbit:∀ q,q < N→bit q=true):∀ (n q:Nat) (m:Nat→Int),q + n=N→q ≤ p→p < q + n →
    (fill b bit n q m).length=((canL b p).map fun k=>(fill (onlyOf b p k) bit n q m).length).sum
  | 0,q,m,_,h1,h2=>by omega
  | n + 1,q,m,hN,h1,h2=>by
    have hb:=hbit q (by omega)
    rw [fill_yes hb,List.length_flatMap]
    by_cases e:q=p
    · subst e
      congr 1
      refine List.map_congr_left fun k hk=>?_
      rw [fill_yes hb,canL_only_eq hk]
      simp only [List.flatMap_cons,List.flatMap_nil,List.append_nil]
      unfold fillAt
      rw [fill_past n (q + 1) _ (by omega)]
      rfl
    · have h3:(canL b q).map (fun j=>(fillAt b bit n q m j).length)=(canL b q).map fun j=>((canL b p).map fun k=>(fillAt (onlyOf b p k) bit n q m j).length).sum:=by
        refine List.map_congr_left fun j _=>?_
        unfold fillAt
        by_cases hc:0 < q∧bit (q - 1)=true∧Apart b.apart (m (q - 1)) j
        · have hc2:∀ k,0 < q∧bit (q - 1)=true∧Apart (onlyOf b p k).apart (m (q - 1)) j:=fun _=>hc
          rw [if_pos hc]
          have:(fun k=>(if 0 < q∧bit (q - 1)=true∧Apart (onlyOf b p k).apart (m (q - 1)) j then [] else fill (onlyOf b p k) bit n (q + 1) (upd m q j):List (Nat→Int)).length)=fun _=>0:=by
            funext k;rw [if_pos (hc2 k)];rfl
          rw [this,sum_zero]
          rfl
        · have hc2:∀ k,¬ (0 < q∧bit (q - 1)=true∧Apart (onlyOf b p k).apart (m (q - 1)) j):=fun _=>hc
          rw [if_neg hc,fill_sum (p:=p) hbit n (q + 1) _ (by omega) (by omega) (by omega)]
          have:(fun k=>(if 0 < q∧bit (q - 1)=true∧Apart (onlyOf b p k).apart (m (q - 1)) j then [] else fill (onlyOf b p k) bit n (q + 1) (upd m q j):List (Nat→Int)).length)=fun k=>(fill (onlyOf b p k) bit n (q + 1) (upd m q j)).length:=by
            funext k;rw [if_neg (hc2 k)]
          rw [this]
      rw [h3,sum_swap]
      congr 1
      refine List.map_congr_left fun k _=>?_
      rw [fill_yes hb,List.length_flatMap,canL_only_ne (by omega)]
theorem machines_sum {b:Book} {p:Nat} (hp:(p:Int) < b.places):(machinesOf b).length=((canL b p).map fun k=>(machinesOf (onlyOf b p k)).length).sum:=by
  refine fill_sum (N:=b.places.toNat) (fun q hq=>?_) _ 0 _ (by omega) (Nat.zero_le _) (by omega)
  rw [Nat.testBit_two_pow_sub_one]
  simpa using hq
end Go.Proofs.Cz
end
