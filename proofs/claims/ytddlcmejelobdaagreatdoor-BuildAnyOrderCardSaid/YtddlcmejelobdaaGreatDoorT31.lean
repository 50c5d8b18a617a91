/- A part. Conditions: none. -/
import Derived.Test.YtddlcmejelobdaaGreatDoorT30
import Derived.WalkMore
set_option linter.all false
set_option maxHeartbeats 8000000
set_option maxRecDepth 100000
namespace Go.Proofs.Cz
open Go.RowKit
variable {a:List Int} {b:ab} {bm full k:Nat} {x:Int}
def Ru (b:ab) (hv:Valid b):∃top full:Nat,(2<=top/\top<=16)/\full<16/\Hid ((full:Int)=(top:Int)-1)/\Hid (bZ b full=true↔aB b=[])/\
 IntKind.i64.wrap (2^b.ah.toNat)=(top:Int)/\wrap64 (2^b.ah.toNat)=(top:Int):=by
 have q7:=hv.ah;obtain⟨n,hn⟩:=ex1 (b.ah.toNat);have V6:n=1\/n=2\/n=3\/n=4:=by omega
 have hE:bZ b (2^n-1)=true↔aB b=[]:=by
  rw[<-hn];unfold bZ;rw[decide_eq_true_iff];unfold rI aB;exact Iff.rfl
 rw[hn];rcases V6 with rfl|rfl|rfl|rfl
 .exact⟨2,1,by omega,by omega,(by omega:_=_),hE,rfl,by unfold wrap64;rfl⟩
 .exact⟨4,3,by omega,by omega,(by omega:_=_),hE,rfl,by unfold wrap64;rfl⟩
 .exact⟨8,7,by omega,by omega,(by omega:_=_),hE,rfl,by unfold wrap64;rfl⟩
 .exact⟨16,15,by omega,by omega,(by omega:_=_),hE,rfl,by unfold wrap64;rfl⟩
def lexLt:List Int->List Int->Bool
 |_,[]=>false
 | [],_::_=>true
 |x::a,y::b=>decide (x<y)||(decide (x=y)&&lexLt a b)
def kL (a b:List Int):Bool:=decide (a.length<b.length)||(decide (a.length=b.length)&&lexLt a b)
def ij (a b:List Int) (k:Nat):Prop:=∀j,j<k->a[j]?=b[j]?
def ij.zero (a b:List Int):ij a b 0:=λj h=>by omega
def ij.succ {b:List Int} (h:ij a b k) (ha:a[k]?=some x) (hb:b[k]?=some x):ij a b (k+1):=λj hj=>by
 by_cases e:j=k
 .subst e;rw[ha,hb]
 .exact h j (by omega)
def ij.tail {y:Int} {b:List Int} (h:ij (x::a) (y::b) (k+1)):x=y/\ij a b k:=
 ⟨by simpa using h 0 (by omega),λj hj=>by simpa using h (j+1) (by omega)⟩
def vB:∀{a b:List Int} {k:Nat} {x y:Int},ij a b k->a[k]?=some x->b[k]?=some y->x≠y->lexLt a b=decide (x<y)
 |u::a,v::b,0,x,y,_,ha,hb,bC=>by
  simp at ha hb;subst ha hb;simp[lexLt,bC]
 |u::a,v::b,k+1,x,y,h,ha,hb,bC=>by
  obtain⟨rfl,h2⟩:=h.tail;have:=vB h2 (by simpa using ha) (by simpa using hb) bC;simp[lexLt,this]
 | [],_,_,_,_,_,ha,_,_=>by simp at ha
 |_::_,[],_,_,_,_,_,hb,_=>by simp at hb
def Dr:∀{a b:List Int} {k:Nat},ij a b k->b.length<=k->lexLt a b=false
 |_,[],_,_,_=>by simp[lexLt]
 | [],v::b,k,h,hb=>by
   have h1:k≠0:=by intro e;subst e;simp at hb
   have:=h 0 (by omega);simp at this
 |u::a,v::b,0,_,hb=>by simp at hb
 |u::a,v::b,k+1,h,hb=>by
  obtain⟨rfl,h2⟩:=h.tail;have:=Dr h2 (by simpa using hb);simp[lexLt,this]
def AF:∀{a b:List Int} {k:Nat},ij a b k->k=a.length->lexLt a b=decide (a.length<b.length)
 | [],[],_,_,_=>by simp[lexLt]
 | [],v::b,_,_,_=>by simp[lexLt]
 |u::a,[],k,h,e=>by simp[lexLt]
 |u::a,v::b,0,_,e=>by simp at e
 |u::a,v::b,k+1,h,e=>by
  obtain⟨rfl,h2⟩:=h.tail;have:=AF h2 (by simpa using e);simp[lexLt,this]
def ja (w:nq) (x y:Int):Calls ZP 142 #[.int .i64 x,.int .i64 y] w (jv w (.int .i64 (if x<y then-1 else if y<x then 1 else 0))):=by
 by_cases h1:x<y
 .go_enter ZF142,Tryz.ntmps142
  go_wp2_with(go_at_call 159;refine(rK _ _).mono ?_;rintro e w' ⟨rfl,rfl⟩)
  all_goals(go_ret;exact jv.of _ (by simp[h1]))
 .by_cases h2:y<x
  .go_enter ZF142,Tryz.ntmps142
   go_wp2_with(go_at_call 159;refine(rK _ _).mono ?_;rintro e w' ⟨rfl,rfl⟩)
   all_goals(go_ret;exact jv.of _ (by simp[h1,h2]))
  .go_enter ZF142,Tryz.ntmps142
   go_wp2_with(go_at_call 159;refine(rK _ _).mono ?_;rintro e w' ⟨rfl,rfl⟩)
   all_goals(go_ret;exact jv.of _ (by simp[h1,h2]))
def WZ (w:nq) (P:Int->Prop) (e:Ending) (w':nq):Prop:=∃r,e=.returned (.int .i64 r)/\P r/\w'=w
def xp (w:nq) (v1 v2:fu) (l1 l2:List Int) (h1:ao w v1 l1) (h2:ao w v2 l2):Calls ZP 128 #[v1,v2] w (WZ w λr=>0<=r↔lexLt l1 l2=false):=by
 obtain⟨a1,c1,h1,e1⟩:=h1;obtain⟨a2,c2,h2,e2⟩:=h2;have H1:Hid (bT w v1 l1.length a1 c1/\_):=⟨h1,e1⟩
 have H2:Hid (bT w v2 l2.length a2 c2/\_):=⟨h2,e2⟩
 obtain⟨rfl,k1,m1,n1,r1⟩:=h1;obtain⟨rfl,k2,m2,n2,r2⟩:=h2;unfold maxLen at m1 m2;clear e1 e2 n1 r1 n2 r2;go_enter ZF128,Tryz.ntmps128
 go_wp2
 go_loop [11,5,6,7,8] (λi _ _ _ _=>∃k:Nat,k<=l1.length/\i=.int .i64 k/\Hid (ij l1 l2 k)) (λi _ _ _ _=>l1.length-(intOf i).toNat)
 case atStart=>exact⟨0,zAM _,rfl,ij.zero _ _⟩
 case round=>
  obtain⟨k,hk,rfl,hS⟩:=hrel;by_cases av:k<l1.length
  .obtain⟨⟨blk,off,sp⟩,y,rfl,hy,y0⟩:=H1.o.1.elem H1.o.2 av;obtain rfl:sp=none:=y0.1;have g0:=y0.2;have HY:=hid hy;simp only at g0;clear y0 hy;by_cases xf:k<l2.length
   .obtain⟨⟨zmU,zmV,ra⟩,y2,rfl,hy2,y1⟩:=H2.o.1.elem H2.o.2 xf;obtain rfl:ra=none:=y1.1;have g1:=y1.2;have HY2:=hid hy2;simp only at g1;clear y1 hy2;rcases(show y<y2\/y2<y\/y=y2 by omega)with hc|hc|hc
    .have bC:¬y=y2:=by omega
     have hcx:=ja;go_wp2_with(go_at_call 142;refine(ja _ y y2).mono ?_;rw[zAF hc];rintro e w' ⟨rfl,rfl⟩)
     go_ret;exact⟨-1,rfl,⟨λh=>absurd h (by decide),λh=>by rw[vB hS.o HY.o HY2.o bC]at h;simp at h;omega⟩,rfl⟩
    .have bC:¬y=y2:=by omega
     have zK:¬y<y2:=by omega
     go_wp2_with(go_at_call 142;refine(ja _ y y2).mono ?_;rw[zAG zK,zAF hc];rintro e w' ⟨rfl,rfl⟩)
     go_ret;exact⟨1,rfl,⟨λ_=>by rw[vB hS.o HY.o HY2.o bC];simpa using(by omega:y2<=y),λ_=>by decide⟩,rfl⟩
    .subst hc;go_wp2_with(go_at_call 142;refine(ja _ y y).mono ?_;rw[zAG (Int.lt_irrefl _),zAG (Int.lt_irrefl _)];rintro e w' ⟨rfl,rfl⟩)
     go_round
     case rel=>exact⟨k+1,by omega,by go_num,hS.o.succ HY.o HY2.o⟩
     case measure=>simp[intOf];omega
   .go_wp2
    go_ret;exact⟨1,rfl,⟨λ_=>Dr hS.o (by omega),λ_=>by decide⟩,rfl⟩
  .have e:k=l1.length:=by omega
   by_cases hll:l1.length<l2.length
   .subst e;go_wp2
    go_ret;exact⟨-1,rfl,⟨λh=>absurd h (by decide),λh=>by rw[AF hS.o rfl]at h;simp at h;omega⟩,rfl⟩
   .subst e;go_wp2
    go_ret;exact⟨0,rfl,⟨λ_=>by rw[AF hS.o rfl];simpa using hll,λ_=>by decide⟩,rfl⟩
def cq (a b:Nat):Bool:=kL (aQ a 4) (aQ b 4)
def vC:∀a b c:Fin 16,cq a.1 b.1=true->cq b.1 c.1=true->cq a.1 c.1=true:=by decide+kernel
def AG:∀a:Fin 16,cq a.1 a.1=false:=by decide+kernel
structure m9 (b:ab) (full k bm:Nat):Prop where
 lt:bm<=full
 is:bm=full\/bZ b bm=true
 least:∀m,m<k->bZ b m=true->cq m bm=false
def m9.skip (h:m9 b full k bm) (hs:cq k bm=false\/bZ b k=false):m9 b full (k+1) bm:=⟨h.lt,h.is,λm hm he=>by
 by_cases e:m=k
 .subst e;rcases hs with h1|h1
  .exact h1
  .rw[h1]at he;cases he
 .exact h.least m (by omega) he⟩
def m9.take (hf:full<16) (hk:k<=full) (h:m9 b full k bm) (hs:cq k bm=true) (he:bZ b k=true):m9 b full (k+1) k:=⟨hk,.inr he,λm hm hm2=>by
 by_cases e:m=k
 .subst e;exact AG ⟨m,by omega⟩
 .have h1:=h.least m (by omega) hm2;have hb:=h.lt;cases hx:cq m k with
  |false=>rfl
  |true=>exact absurd (vC ⟨m,by omega⟩ ⟨k,by omega⟩ ⟨bm,by omega⟩ hx hs) (by rw[h1];decide)⟩
def W6 (w:nq) (b:ab) (e:Ending) (w':nq):Prop:=
 (∃v m,e=.returned v/\ao w' v (aQ m 4)/\m9 b (2^b.ah.toNat-1) (2^b.ah.toNat) m)/\Below w.heap.size w w'
def Gk (w:nq) (v:fu) (b:ab) (hb:ar w v b) (hv:Valid b):Calls ZP 84 #[.int .i64 b.ah,.func (.func 83) #[v] #[]] w (W6 w b):=by
 have HB:=hid hb;have HV:Hid (Valid b):=hv;have q7:=hv.ah;obtain⟨top,lh⟩:∃top:Nat,top=2^b.ah.toNat:=⟨_,rfl⟩
 obtain⟨full,Uc⟩:∃full:Nat,full+1=top:=⟨2^b.ah.toNat-1,by have:=Nat.two_pow_pos b.ah.toNat;omega⟩
 have ht:2<=top/\top<=16:=by
  rcases(by omega:b.ah=1\/b.ah=2\/b.ah=3\/b.ah=4)with h|h|h|h<;>(rw[lh,h];decide)
 have bh:IntKind.i64.wrap (2^b.ah.toNat)=(top:Int):=by
  rcases(by omega:b.ah=1\/b.ah=2\/b.ah=3\/b.ah=4)with h|h|h|h<;>(rw[lh,h];rfl)
 have bL:wrap64 (2^b.ah.toNat)=(top:Int):=by
  rcases(by omega:b.ah=1\/b.ah=2\/b.ah=3\/b.ah=4)with h|h|h|h<;>(rw[lh,h];unfold wrap64;rfl)
 have hB2:wrap64 ((top:Int)-1)=(full:Int):=by unfold wrap64;omega
 have Jm:full<16:=by omega
 have HTF:Hid (2^b.ah.toNat-1=full/\2^b.ah.toNat=top):=⟨by rw[<-lh];omega,lh.symm⟩
 have TX:Hid ((full:Int)=(top:Int)-1):=(by omega:(full:Int)=(top:Int)-1)
 have HF2:Hid (full+1=top/\top<=16):=⟨Uc,ht.2⟩
 clear hb hv lh Uc;go_enter ZF84,Tryz.ntmps84
 go_wp2
 go_step3
 have hC:=vA w full Jm;rw[TX.o]at hC
 go_wp2_with(go_at_call 127
             refine hC.mono ?_;rintro e w1 ⟨⟨r,rfl,hr⟩,bq⟩;have cV:=hid bq;have HR:=hid hr;clear bq hr hC)
 clear hB2;go_step3
 go_wp2
 clear bh bL Jm;go_loopw [14,5,6,7] (λi u _ _ wr=>∃k bm:Nat,k<=top/\i=.int .i64 k/\Hid (ao wr u (aQ bm 4)/\m9 b full k bm)/\Hid (Below w.heap.size w wr)) (λi _ _ _ _=>top-(intOf i).toNat)
 case atStart=>exact⟨0,full,zAM _,rfl,⟨HR.o,zAB _,.inl rfl,λm h=>by omega⟩,cV⟩
 case round=>
  obtain⟨k,bm,hk,rfl,hR,hB⟩:=hrel;by_cases av:k<top
  .have hC1:=vA wr k (by omega);obtain⟨L2,Pf⟩:=ex1 (aQ k 4);obtain⟨Lb,hLb⟩:=ex1 (aQ bm 4);have hL1:L2.length<=4:=by rw[<-Pf];exact lE k 4
   have hL3:Lb.length<=4:=by rw[<-hLb];exact lE bm 4
   have HSM:Hid (cq k bm=kL L2 Lb):=by rw[<-Pf,<-hLb];rfl
   have vD:=hid Pf;rw[Pf]at hC1;have ZN:=hR.o.1;rw[hLb]at ZN;have HRB:=hid ZN;have Yn:Hid (m9 b full k bm):=hR.o.2;obtain⟨a0,c0,hS0,_⟩:=ZN;obtain⟨rfl,_,_,_,_⟩:=hS0;have cr:=hB.o.size;clear Pf;go_wp2_with fail
   refine hC1.mono ?_;rintro e w2 ⟨⟨r2,rfl,qT⟩,eQ⟩;have gW:Hid (Below w.heap.size w w2):=hB.o.trans (eQ.mono cr);have xj:=hid qT;have jA:Hid (ao w2 (.slice a0 Lb.length c0) Lb):=HRB.o.later (Kp.of eQ);obtain⟨a2,c2,hS2,_⟩:=qT;obtain⟨rfl,_,_,_,_⟩:=hS2;have zmY:top<=16:=ht.2;clear eQ hC1 ht q7 hR;have HLB:=hid hLb;clear hLb;by_cases h1:Lb.length<L2.length
   .have Gl:Hid (cq k bm=false):=(by rw[HSM.o];unfold kL;simp;omega:cq k bm=false)
    have HRx:Hid (ao w2 (.slice a0 Lb.length c0) (aQ bm 4)):=by rw[HLB.o];exact jA.o
    go_wp2_with fail
    go_round
    case rel=>exact⟨k+1,bm,by omega,by go_num,⟨HRx.o,Yn.o.skip (.inl Gl.o)⟩,gW⟩
    case measure=>simp[intOf];omega
   .by_cases h2:L2.length=Lb.length
    .have Ud:=xp _ _ _ _ _ xj.o jA.o;cases hx:lexLt L2 Lb with
     |false=>
      have Gl:Hid (cq k bm=false):=(by rw[HSM.o];unfold kL;simp[hx,h2]:cq k bm=false)
      have HRx:Hid (ao w2 (.slice a0 Lb.length c0) (aQ bm 4)):=by rw[HLB.o];exact jA.o
      rw[hx]at Ud;clear hx h1;rw[h2]at Ud⊢
      go_wp2_with(go_at_call 128
                  refine Ud.mono ?_;rintro e w3 ⟨x,rfl,zT,rfl⟩;have xE:0<=x:=(by simpa using zT)
                  clear Ud zT)
      go_round
      case rel=>exact⟨k+1,bm,by omega,by go_num,⟨HRx.o,Yn.o.skip (.inl Gl.o)⟩,gW⟩
      case measure=>simp[intOf];omega
     |true=>
      have Gl:Hid (cq k bm=true):=(by rw[HSM.o];unfold kL;simp[hx,h2]:cq k bm=true)
      rw[hx]at Ud;clear hx h1;rw[h2]at Ud xj⊢
      go_wp2_with(first
       |(go_at_call 128
         refine Ud.mono ?_;rintro e w3 ⟨x,rfl,zT,rfl⟩;have xE:¬0<=x:=λh=>Bool.noConfusion (zT.1 h);clear Ud zT)
       |(go_at_call 83
         refine(rJ _ _ b k (by omega) (HB.o.later (Kp.of gW.o)) HV.o).mono ?_;rintro e w3 ⟨rfl,Ly⟩;have iI:=gW.t Ly;have sI:Hid (ao w3 (.slice a0 Lb.length c0) (aQ bm 4)):=(by rw[HLB.o];exact jA.o.later (Kp.of Ly))
         have Iu:Hid (ao w3 (.slice a2 Lb.length c2) (aQ k 4)):=(by rw[vD.o];exact xj.o.later (Kp.of Ly))
         obtain⟨r3,Ls⟩:=ex1 (bZ b k);have Rv:=hid Ls;rw[Ls];clear Ly jA xj Ls;cases r3))
      .go_round
       case rel=>exact⟨k+1,bm,by omega,by go_num,⟨sI.o,Yn.o.skip (.inr Rv.o)⟩,iI⟩
       case measure=>simp[intOf];omega
      .go_round
       case rel=>exact⟨k+1,k,by omega,by go_num,⟨Iu.o,Yn.o.take (by have:=HF2.o;omega) (by have:=HF2.o;omega) Gl.o Rv.o⟩,iI⟩
       case measure=>simp[intOf];omega
    .have Gl:Hid (cq k bm=true):=(by rw[HSM.o];unfold kL;simp;omega:cq k bm=true)
     have h2i:¬(L2.length:Int)=(Lb.length:Int):=by omega
     go_wp2_with(go_at_call 83
                 refine(rJ _ _ b k (by omega) (HB.o.later (Kp.of gW.o)) HV.o).mono ?_;rintro e w3 ⟨rfl,Ly⟩;have iI:=gW.t Ly;have sI:Hid (ao w3 (.slice a0 Lb.length c0) (aQ bm 4)):=(by rw[HLB.o];exact jA.o.later (Kp.of Ly))
                 have Iu:Hid (ao w3 (.slice a2 L2.length c2) (aQ k 4)):=(by rw[vD.o];exact xj.o.later (Kp.of Ly))
                 obtain⟨r3,Ls⟩:=ex1 (bZ b k);have Rv:=hid Ls;rw[Ls];clear Ly jA xj Ls;cases r3)
     .go_round
      case rel=>exact⟨k+1,bm,by omega,by go_num,⟨sI.o,Yn.o.skip (.inr Rv.o)⟩,iI⟩
      case measure=>simp[intOf];omega
     .go_round
      case rel=>exact⟨k+1,k,by omega,by go_num,⟨Iu.o,Yn.o.take (by have:=HF2.o;omega) (by have:=HF2.o;omega) Gl.o Rv.o⟩,iI⟩
      case measure=>simp[intOf];omega
  .have e:k=top:=by omega
   subst e;obtain⟨a0,c0,hS0,_⟩:=hR.o.1;obtain⟨rfl,_,_,_,_⟩:=hS0;go_wp2
   rw[Exit.noGoto_ret];go_ret;refine⟨⟨_,bm,rfl,hR.o.1,?_⟩,hB.o⟩;rw[HTF.o.1,HTF.o.2];exact hR.o.2
structure Gm (b:ab) (m:Nat):Prop where
 lt:m<2^b.ah.toNat
 none:bZ b m=true
 least:∀m',m'<2^b.ah.toNat->bZ b m'=true->cq m' m=false
def Gn (hv:Valid b) (h0:aB b=[]) {m:Nat} (h:m9 b (2^b.ah.toNat-1) (2^b.ah.toNat) m):Gm b m:=by
 have h1:=Nat.two_pow_pos b.ah.toNat;refine⟨by have:=h.lt;omega,?_,h.least⟩;rcases h.is with rfl|h2
 .unfold bZ;rw[decide_eq_true_iff];exact h0
 .exact h2
def W7 (w:nq) (b:ab) (e:Ending) (w':nq):Prop:=
 ((aB b≠ []/\e=.returned (.tuple #[.slice none 0 0,.int .i64 0]))\/(aB b=[]/\∃v m,e=.returned (.tuple #[v,.int .i64 0])/\ao w' v (aQ m 4)/\Gm b m))/\Below w.heap.size w w'
def NL (w:nq) (v:fu) (b:ab) (hb:ar w v b) (hv:Valid b) (hc:jh w):Calls ZP 28 #[v] w (W7 w b):=by
 have HB:=hid hb;have HV:Hid (Valid b):=hv;have q7:=hv.ah;obtain⟨v2,v3,v4,rfl,⟨a2,c2,⟨rfl,_,_,_,_⟩,_⟩,⟨a3,c3,⟨rfl,_,_,_,_⟩,_⟩,⟨a4,c4,⟨rfl,_,_,_,_⟩,_⟩⟩:=hb;have hC:=jz (w.alloc (.cells #[.int .i64 b.ak,.int .i64 b.ah,.slice a2 b.ptz.length c2,.slice a3 b.aL.length c3,.slice a4 b.aX.length c4] 26)) _ _ (HB.o.later (Kp.alloc w _)) hv (hc.later ((Below.refl _ _).alloc (zAB _) _));obtain⟨top,full,ht,Jm,TX,HE,bh,bL⟩:=Ru b hv;clear hv hc;go_enter ZF28,Tryz.ntmps28
 go_wp2_with(go_at_call 56
             refine hC.mono ?_;rintro e w1 ⟨⟨r,rfl,rfl⟩,bq⟩;have cV:Hid (Below (w.heap.size+1) _ w1):=bq.iy;obtain⟨s0,s1,s2,s3,s4⟩:=oV.Nw cV.o;clear hC bq)
 obtain⟨W5,IA⟩:=ex1 (w1.alloc (.cells #[.int .i64 b.ak,.int .i64 b.ah,.slice a2 b.ptz.length c2,.slice a3 b.aL.length c3,.slice a4 b.aX.length c4] 78));have b5:=(bnew IA).o
 have Eu:Hid (ar W5 (.agg #[.int .i64 b.ak,.int .i64 b.ah,.slice a2 b.ptz.length c2,.slice a3 b.aL.length c3,.slice a4 b.aX.length c4]) b):=(by
  rw[<-IA];exact(HB.o.later (Kp.boxed cV.o)).later (Kp.alloc w1 _))
 have Pg:Hid (Below w.heap.size w W5):=(by
  rw[<-IA];have hs:=cV.o.size;simp at hs;exact Below.boxed (cV.o.trans (((Below.refl _ w1).alloc (zAB _) _).mono hs)))
 have p1:∀X:am W5,X.1.cell? ⟨w.heap.size,1,none⟩=some (.int .i64 b.ah):=λX=>X.cell (by
  rw[<-IA];exact(eR (by have hs:=cV.o.size;simp at hs;exact hs) _).trans s1)
 obtain⟨q0,q1,q2,q3,q4⟩:=b5.a5
 have NM:∀X:am W5,Calls ZP 83 #[.agg #[.int .i64 b.ak,.int .i64 b.ah,.slice a2 b.ptz.length c2,.slice a3 b.aL.length c3,.slice a4 b.aX.length c4],.int .i64 ((top:Int)-1)] X.1
  (λe jy=>e=.returned (.bool (bZ b full))/\∃Y:am W5,jy=Y.1):=λX=>by
  rw[<-TX.o];exact(rJ X.1 _ b full Jm (Eu.o.later X.kp) HV.o).mono λe w' h=>⟨h.1,X.on h.2⟩
 rw[IA];clear b5 s0 s1 s2 s3 s4 HB cV IA;generalize bZ b full=r at HE NM;cases r with
 |false=>
  refine ap (by kernel_rfl) (by kernel_rfl) ?_;go_big_quiet_step (fail)
  go_big_quiet_step (fail)
  go_big_quiet_step (fail)
  go_big_quiet_step (fail)
  clear bh bL;repeat(go_big_quiet_step (first|(go_at_call 83;exact NM _)))
  refine wpQuiet_nil ?_;rintro _ ⟨X,rfl⟩;have HX:=Pg.t X.2;clear ht q7 NM;go_wp2
  go_ret2;exact⟨.inl ⟨λh=>Bool.noConfusion (HE.o.2 h),rfl⟩,HX.o⟩
 |true=>
  refine ap (by kernel_rfl) (by kernel_rfl) ?_;go_big_quiet_step (fail)
  go_big_quiet_step (fail)
  go_big_quiet_step (fail)
  go_big_quiet_step (fail)
  clear bh bL;repeat(go_big_quiet_step (first|(go_at_call 83;exact NM _)))
  refine wpQuiet_nil ?_;rintro _ ⟨X,rfl⟩;have HX:=Pg.t X.2;have hC4:=Gk X.1 _ b (Eu.o.later X.kp) HV.o;have hM:Hid (aB b=[]):=HE.o.1 rfl;clear ht q7 NM
  go_wp2_with(go_at_call 84
              refine hC4.mono ?_;rintro e w2 ⟨⟨vl,bm,rfl,Xa,WW⟩,eQ⟩;have gW:=HX.t eQ;have HVL:Hid (ao w2 vl (aQ bm 4)/\m9 b (2^b.ah.toNat-1) (2^b.ah.toNat) bm):=⟨Xa,WW⟩
              clear eQ Xa WW)
  go_ret2;exact⟨.inr ⟨hM.o,vl,bm,rfl,HVL.o.1,Gn HV.o hM.o HVL.o.2⟩,gW.o⟩
end Go.Proofs.Cz
namespace Go.Proofs.Cz
end Go.Proofs.Cz
namespace Go.Proofs.Cz
open Go.RowKit
variable {A W W0 w w':nq} {B K T c2 g g1 g2 g3 g4 i k l n p:Nat} {J:List (Nat->Int)->List Nat->nq->Prop} {Jx:nq->Prop} {O:List Nat} {a2:Option Addr} {ag:(Nat->Int)->Bool} {b:ab} {cs:Array fu} {t:a00} {v3 v4:fu} {α:Type}
def zbd (x:Part) (f:fu):List fu:=[.string x.name,.int .i64 x.cost,.int .i64 x.dm,.int .i64 x.lo,.int .i64 x.hi,f]
def jb {B':Nat} {e:a00} {s:Nat} {v:fu} {xs:List fu} (h:w.ownsRow B e s v n xs) (hB:B'<=B):w.ownsRow B' e s v n xs:=by
 obtain⟨h1,h|⟨g,cap,cur,rfl,hg,r⟩⟩:=h
 .exact⟨h1,.inl h⟩
 .exact⟨h1,.inr ⟨g,cap,cur,rfl,by omega,r⟩⟩
def aA.below (h:aA A g t cs) (k:Below B A w') (hg:g<B):aA w' g t cs:=(k.block g hg).trans h
def hidb (h:Hid (aA A g t cs)) (k:Below A.heap.size A w'):Hid (aA w' g t cs):=h.out.below k h.out.lt
def lF {P:Nat} (h:aA w P t cs):∀j u,cs.toList[j]?=some u->w.cell? ((⟨P,0,none⟩:Addr).add j)=some u:=λj u hu=>by
 have FA:(⟨P,0,none⟩:Addr).add j=⟨P,j,none⟩:=by unfold Addr.add;split<;>simp_all
 rw[FA];exact h.cell j (by simpa using hu)
def NN (s:ByteArray) (a b c d:Int) (fa:Option Addr) (n m:Nat):∀u∈ [Value.string s,.int .i64 a,.int .i64 b,.int .i64 c,.int .i64 d,.slice fa n m],u.oneCell'=true:=λu h=>by
 simp at h;rcases h with rfl|rfl|rfl|rfl|rfl|rfl<;>rfl
def Xb:(ZP.info? 37).map (λi=>(i.zero,i.size,i.bytes))=some (some (.agg #[.string .empty,.int .i64 0,.int .i64 0,.int .i64 0,.int .i64 0,.slice none 0 0]),6,72):=by kernel_rfl
def Rw:ZP.underlying 22=some (.slice 37):=by rw[Tz.under];exact Tryz.underlying22
def rL {p x:Int} {l:List Part}:∀{k:Nat},x∈dC p l k↔∃i:Nat,i<k/\x=i/\∃y,l[i]?=some y/\p∈y.fits
 |0=>by simp[dC]
 |k+1=>by
  rw[dC,zCH,rL];constructor
  .rintro(⟨i,hi,h⟩|h)
   .exact⟨i,by omega,h⟩
   .cases hk:l[k]? with
    |none=>simp[hk]at h
    |some y=>
     simp only[hk]at h;split at h
     .simp at h;exact⟨k,by omega,h,y,hk,by assumption⟩
     .simp at h
  .rintro⟨i,hi,rfl,y,hy,hp⟩;by_cases e:i=k
   .subst e;right;simp[hy,hp]
   .exact .inl ⟨i,by omega,rfl,y,hy,hp⟩
def qz {p:Int} {l:List Part}:∀k:Nat,(dC p l k).Pairwise (·<·)
 |0=>List.Pairwise.nil
 |k+1=>by
  rw[dC,zFG];refine⟨qz k,?_,?_⟩
  .split
   .split<;>simp
   .simp
  .intro a ha b hb;obtain⟨i,hi,rfl,_⟩:=rL.1 ha
   have:b=k:=by
    split at hb
    .split at hb
     .simpa using hb
     .simp at hb
    .simp at hb
   omega
def tick (t:Nat->Int):Array fu:=#[.int .i64 (t 0),.int .i64 (t 1),.int .i64 (t 2),.int .i64 (t 3),.int .i64 (t 4)]
def dV (hp:p<5) (t:Nat->Int):(tick t)[p]?=some (.int .i64 (t p)):=by
 match p,hp with
 |0,_=>rfl
 |1,_=>rfl
 |2,_=>rfl
 |3,_=>rfl
 |4,_=>rfl
def aG (m t:Nat->Int):Nat->Int
 |0=>0
 |k+1=>aG m t k+t (m k).toNat
def rM {m t:Nat->Int} (ht:∀i,0<=t i/\t i<=20):∀k,0<=aG m t k/\aG m t k<=20*k
 |0=>by simp[aG]
 |k+1=>by
  have h1:=rM (m:=m) ht k;have h2:=ht (m k).toNat;unfold aG;omega
def Ds (w:nq) (v2 v3 v4:fu) (b:ab) (N:Nat) (hN:b.ah=N) (rN:N<=4) (m t:Nat->Int) (hm:∀i,i<N->0<=m i/\m i<5) (ht:∀i,0<=t i/\t i<=20):
 Calls ZP 117 #[.agg #[.int .i64 b.ak,.int .i64 b.ah,v2,v3,v4],.agg (bY m),.agg (tick t)] w (bK w (.int .i64 (aG m t N))):=by
 rw[hN];obtain⟨A1,bh⟩:=ex1 (w.alloc (.cells #[.int .i64 b.ak,.int .i64 N,v2,v3,v4] 78));obtain⟨A2,bL⟩:=ex1 (A1.alloc (.cells (bY m) 94));obtain⟨A3,gP⟩:=ex1 (A2.alloc (.cells (tick t) 130));have eL:=snew bh;have j8:=snew2 bL eL
 have b1:aA A3 w.heap.size 78 #[.int .i64 b.ak,.int .i64 N,v2,v3,v4]:=by
  rw[<-gP];refine(aa.alloc [] _ _).box ?_ (by simp);rw[<-bL];refine(aa.alloc [] _ _).box ?_ (by simp);rw[<-bh];exact aA.new _ _ _
 have B2:Hid (aA A3 (w.heap.size+1) 94 (bY m)):=by
  rw[<-gP];refine(aa.alloc [] _ _).box ?_ (by simp);rw[<-bL,<-eL];exact aA.new _ _ _
 have B3:=bnew2 gP j8;have HW:=wnew3 bh bL gP;obtain⟨-,z1⟩:=b1.c2;simp only[bY,tick]at bL gP⊢;clear b1 hN;go_enter ZF117,Tryz.ntmps117
 go_wp2
 clear bh bL gP eL j8;go_loop [12,8,7] (λi _ s=>∃k:Nat,k<=N/\i=.int .i64 k/\s=.int .i64 (aG m t k)) (λi _ _=>N-(intOf i).toNat)
 case atStart=>exact⟨0,zAM _,rfl,rfl⟩
 case round=>
  obtain⟨k,hk,rfl,rfl⟩:=hrel;by_cases av:k<N
  .have mw:k<4:=by omega
   have c2:A3.cell? ⟨w.heap.size+1,k,none⟩=some (.int .i64 (m k)):=B2.o.cell k (fR mw _);obtain⟨j,hj⟩:∃j:Nat,m k=(j:Int):=⟨(m k).toNat,by have:=(hm k av).1;omega⟩
   have Ry:j<5:=by have:=(hm k av).2;omega
   rw[hj]at c2;have c3:A3.cell? ⟨w.heap.size+1+1,j,none⟩=some (.int .i64 (t j)):=B3.o.cell j (dV Ry _);have hb:=rM (m:=m) ht k;have eQ:=ht j;have HS:Hid (aG m t (k+1)=aG m t k+t j):=by show aG m t k+t (m k).toNat=_;rw[hj];simp
   go_wp2
   go_round
   case rel=>exact⟨k+1,by omega,by go_num,by rw[HS.o]⟩
   case measure=>simp[intOf];omega
  .have e:k=N:=by omega
   subst e;go_wp2
   go_ret;exact⟨rfl,HW.o⟩
attribute [local go_sem] Oper.semAt_some
def span (lo:Int):Nat->List Int
 |0=>[]
 |n+1=>lo::span (lo+1) n
def di (ag:(Nat->Int)->Bool) (l:List Part):Nat->Nat->(Nat->Int)->List (Nat->Int)
 |0,_,t=>if ag t then [t]else []
 |n+1,i,t=>match l[i]? with
  |some x=>(span x.lo (x.hi+1-x.lo).toNat).flatMap λk=>di ag l n (i+1) (upd t i k)
  |none=>[]
structure xq (W0 W:nq) (b:ab) (v2 v3 v4 y:fu) (g1 g2 g3 g4:Nat) (O:List Nat):Prop where
 b1:aA W g1 78 #[.int .i64 b.ak,.int .i64 b.ah,v2,v3,v4]
 b3:aA W g3 165 #[y]
 b4:aA W g4 121 #[.func (.func 134) #[] #[ptr g1,ptr g2,ptr g3,ptr g4]]
 n1:g1∉O
 n2:g2∉O
 n3:g3∉O
 n4:g4∉O
 d1:g1≠g2
 d3:g3≠g2
 d4:g4≠g2
 ge:W0.heap.size<=g2
 old:Below W0.heap.size W0 W
 geO:∀k∈O,W0.heap.size<=k
def xq.on {W':nq} {v2 y:fu} {O':List Nat} (h:xq W0 W b v2 v3 v4 y g1 g2 g3 g4 O) (h2:g2<W.heap.size)
 (hk:aa (g2::O) W W') (hO:∀k∈O',k∈O\/W.heap.size<=k):xq W0 W' b v2 v3 v4 y g1 g2 g3 g4 O':=by
 have l1:=h.b1.lt;have l3:=h.b3.lt;have l4:=h.b4.lt
 have hW:=h.old.size
 refine⟨hk.box h.b1 (by simp[h.d1,h.n1]),hk.box h.b3 (by simp[h.d3,h.n3]),hk.box h.b4 (by simp[h.d4,h.n4]),?_,?_,?_,?_,h.d1,h.d3,h.d4,h.ge,
  h.old.trans (hk.below (λk hx=>by rcases zAL.1 hx with rfl|hx;exact h.ge;exact h.geO k hx) hW),λk hx=>(hO k hx).elim (h.geO k) (λhx=>by omega)⟩
 .intro hx;exact(hO _ hx).elim h.n1 (λhx=>by omega)
 .intro hx;exact(hO _ hx).elim h.n2 (λhx=>by omega)
 .intro hx;exact(hO _ hx).elim h.n3 (λhx=>by omega)
 .intro hx;exact(hO _ hx).elim h.n4 (λhx=>by omega)
def vE (J:List (Nat->Int)->List Nat->nq->Prop) (Jx:nq->Prop) (g2 P i:Nat) (L:List (Nat->Int)) (t:Nat->Int) (ms:List (Nat->Int)) (O:List Nat) (W:nq) (e:Ending) (W':nq):Prop:=
 (e=.returned (.bool true)/\∃t',(∀j,j<i->t' j=t j)/\(∀j,P<=j->t' j=0)/\aA W' g2 130 (tick t')/\∃O',(∀k∈O',k∈O\/W.heap.size<=k)/\J (ms++L) O' W'/\aa (g2::O) W W')\/
 (e=.returned (.bool false)/\L≠ []/\Jx W'/\aa (g2::O) W W')
abbrev AH (W0:nq) (l K:Nat) (J:List (Nat->Int)->List Nat->nq->Prop) (Jx:nq->Prop):Prop:=
 Gg ZP W0.heap.size [] l (λt=>.agg (tick t)) K J Jx
def Gp {t:Nat->Int} {ms:List (Nat->Int)}
 (hi:i=b.ptz.length) (hz:∀j,b.ptz.length<=j->t j=0)
 (km:∀X,Below W0.heap.size W0 X->Calls ZP 135 #[.agg #[.int .i64 b.ak,.int .i64 b.ah,.slice a2 b.ptz.length c2,v3,v4],.agg (tick t)] X (bK X (.bool (ag t))))
 (hR:AH W0 l K J Jx) (hI:xq W0 W b (.slice a2 b.ptz.length c2) v3 v4 (.func (.yield l) #[] #[]) g1 g2 g3 g4 O) (h2:aA W g2 130 (tick t)) (hJ:J ms O W) (hlen:ms.length+(if ag t then 1 else 0)<=K):
 Calls ZP 134 #[.int .i64 i,ptr g1,ptr g2,ptr g3,ptr g4] W (vE J Jx g2 b.ptz.length i (if ag t then [t]else []) t ms O W):=by
 obtain⟨y0,y1,y2,y3,y4⟩:=hI.b1.c5;obtain⟨x0,x1,x2,x3,x4⟩:=h2.c5;have HI:=hid hI;have H2:=hid h2;have HZ:=hid hz;have hC:=km W hI.old;clear hI h2 hz km;subst hi;cases he:ag t with
 |false=>
  rw[he]at hC;simp only[tick]at hC;go_enter ZF134,Tryz.ntmps134
  go_wp2_with(go_at_call 135
              refine hC.mono ?_;rintro e w1 ⟨rfl,bq⟩;have HB:=hid bq;clear bq)
  go_ret;exact .inl ⟨rfl,t,λ_ _=>rfl,HZ.o,(aa.of (O:=[]) HB.o).box H2.o (by simp),O,λ_ h=>.inl h,by simpa using hR.stay hJ HB.o.size (λk hk=>HB.o.block k (hR.own hJ k hk).2.1),.of HB.o⟩
 |true=>
  rw[he]at hC;simp only[tick]at hC;have HL:Hid (ms.length<K):=(by simp[he]at hlen;exact(by omega:ms.length<K))
  have HJ:Hid (J ms O W):=hJ;clear hlen hJ;refine(callsIn_wide (n:=0)).1 ?_;refine callsIn_of_wp ZF134 rfl trivial ?_
  simp only[Tryz.ntmps134,zEY,zBU,zCC,Nat.reduceAdd,Nat.reduceSub,zEN,
   zEO,zEZ,zEU,zDW,zDG]
  gi_wp2_with(refine⟨trivial,rfl,?_⟩
              gi_at_call 135
              refine(callsIn_wide.2 hC).mono ?_;rintro e w1 ⟨rfl,bq⟩;have HB:=hid bq;have HJ1:Hid (J ms O w1):=hR.stay HJ.o bq.size (λk hk=>bq.block k (hR.own HJ.o k hk).2.1);have HI1:Hid (xq W0 w1 b (.slice a2 b.ptz.length c2) v3 v4 (.func (.yield l) #[] #[]) g1 g2 g3 g4 O):=HI.o.on H2.o.lt (.of bq) (λ_ h=>.inl h);have H21:Hid (aA w1 g2 130 (tick t)):=(aa.of (O:=[]) bq).box H2.o (by simp);obtain⟨fn,tmps,assign,body,hy,hr⟩:=hR.yield ms t O w1 HJ1.o HL.o;simp only[tick]at hy;have q0:=HI1.o.b3.c1;obtain⟨x0,x1,x2,x3,x4⟩:=H21.o.c5;clear bq hC)
  refine⟨rfl,hr.mono ?_⟩;rintro e W' (⟨rfl,O',Pd,hJ',hk⟩|⟨rfl,hx,hk⟩)
  .gi_wp2
   go_ret;refine .inl ⟨rfl,t,λ_ _=>rfl,HZ.o,hk.box H21.o HI1.o.n2,O',(λk h=>(Pd k h).imp id (λh=>zAP HB.o.size h)),by simpa using hJ',((aa.of (O:=O) HB.o).trans' hk).mono λx hx=>.inl (zAR _ hx)⟩
  .gi_wp2
   go_ret;exact .inr ⟨rfl,(by simp),hx,((aa.of (O:=O) HB.o).trans' hk).mono λx hx=>.inl (zAR _ hx)⟩
def nL {l:List Part} {t:Nat->Int} {x:Part} (hx:l[i]?=some x):
 di ag l (n+1) i t=(span x.lo (x.hi+1-x.lo).toNat).flatMap λk=>di ag l n (i+1) (upd t i k):=by rw[di,hx]
def yJ {ag:(Nat->Int)->Bool} {l:List Part}:∀(n i:Nat) (t t':Nat->Int),i+n=l.length->(∀j,j<i->t' j=t j)->(∀j,l.length<=j->t j=0)->(∀j,l.length<=j->t' j=0)->
 di ag l n i t'=di ag l n i t
 |0,i,t,t',hn,h1,h2,h3=>by
  have:t'=t:=by
   funext j;by_cases hj:j<i
   .exact h1 j hj
   .rw[h2 j (by omega),h3 j (by omega)]
  rw[this]
 |n+1,i,t,t',hn,h1,h2,h3=>by
  have hx:l[i]?=some l[i]:=zAJ (by omega);rw[nL hx,nL hx];congr 1;funext k;refine yJ n (i+1) _ _ (by omega) (λj hj=>?_) (λj hj=>?_) (λj hj=>?_)
  .by_cases e:j=i
   .subst e;rw[bO,bO]
   .rw[az _ _ e,az _ _ e];exact h1 j (by omega)
  .rw[az _ _ (by omega)];exact h2 j hj
  .rw[az _ _ (by omega)];exact h3 j hj
def nM (lo:Int):∀n:Nat,span lo (n+1)=span lo n++[lo+n]
 |0=>by simp[span]
 |n+1=>by
  have:=nM (lo+1) n;show lo::span (lo+1) (n+1)=_;rw[this];show _=lo::(span (lo+1) n)++_;rw[zDG];congr 3;push_cast
  omega
def qA (hp:p<5) (t:Nat->Int) (k:Int):(tick t).setIfInBounds p (.int .i64 k)=tick (upd t p k):=by
 match p,hp with
 |0,_=>simp[tick,upd]
 |1,_=>simp[tick,upd]
 |2,_=>simp[tick,upd]
 |3,_=>simp[tick,upd]
 |4,_=>simp[tick,upd]
def yK (lo:Int) (k:Nat):∀d:Nat,∃r,span lo (k+d)=span lo k++r
 |0=>⟨[],by simp⟩
 |d+1=>by
  obtain⟨r,h⟩:=yK lo k d;exact⟨r++[lo+(k+d:Nat)],by rw[<-zBD,nM,h,zDK]⟩
def yL (lo:Int) (f:Int->List α) (h:k<T):((span lo k).flatMap f).length+(f (lo+k)).length<=((span lo T).flatMap f).length:=by
 obtain⟨r,e⟩:=yK lo (k+1) (T-(k+1));rw[show k+1+(T-(k+1))=T by omega]at e;rw[e,zCR,zAZ,nM,zCR,zAZ];simp
def RA (lo:Int) (f:Int->List α) (h:k<T) (hf:f (lo+k)≠ []):(span lo T).flatMap f≠ []:=λe=>by
 have h1:=yL lo f h;rw[e,zCC]at h1;have:=zDC.2 hf;omega
def Kj
 (hb:ar W0 (.agg #[.int .i64 b.ak,.int .i64 b.ah,.slice a2 b.ptz.length c2,v3,v4]) b) (hv:Valid b)
 (km:∀X t,Below W0.heap.size W0 X->Calls ZP 135 #[.agg #[.int .i64 b.ak,.int .i64 b.ah,.slice a2 b.ptz.length c2,v3,v4],.agg (tick t)] X (bK X (.bool (ag t))))
 (hR:AH W0 l K J Jx):
 ∀(n i:Nat),i+n=b.ptz.length->∀(t:Nat->Int) (ms:List (Nat->Int)) (O:List Nat) (W:nq),(∀j,b.ptz.length<=j->t j=0)->
  xq W0 W b (.slice a2 b.ptz.length c2) v3 v4 (.func (.yield l) #[] #[]) g1 g2 g3 g4 O->aA W g2 130 (tick t)->J ms O W->ms.length+(di ag b.ptz n i t).length<=K->
  Calls ZP 134 #[.int .i64 i,ptr g1,ptr g2,ptr g3,ptr g4] W (vE J Jx g2 b.ptz.length i (di ag b.ptz n i t) t ms O W):=by
 intro n;induction n with
 |zero=>exact λi hi t ms O W hz hI h2 hJ hlen=>Gp (by omega) hz (λX hX=>km X t hX) hR hI h2 hJ (by
   simp only[di]at hlen;cases he:ag t<;>simp[he]at hlen⊢<;>omega)
 |succ n ih=>
  intro i hi t ms O W hz hI h2 hJ hlen;have hm:=hv.ptz.many;have Xc:i<5:=by omega
  have hil:i<b.ptz.length:=by omega
  obtain⟨v2',_,_,Bj,⟨a2',c2',hS,hE⟩,_,_⟩:=hb;obtain⟨⟨blk,off,sp⟩,x,hax,hx,x0,x1,x2,x3,x4,vf,x5,x6⟩:=hS.elem hE hil;obtain rfl:sp=none:=x0.1;have he:=hS.eq;simp only[Value.agg.injEq,zCO,zCB,zCK,zEC]at Bj;obtain⟨rfl,rfl,rfl⟩:=Bj;simp only[Value.slice.injEq,zCK]at he;obtain⟨rfl,rfl⟩:=he;subst hax;have HX:=hid hx;have hpo:=(hv.ptz.all i x hil hx).1;have IB:0<=x.lo/\x.lo<=x.hi/\x.hi<=20:=hpo.time;have X3:=hid x3;have X4:=hid x4;have HI:=hid hI;have H2:=hid h2;obtain⟨-,-,y2⟩:=hI.b1.c3;have y3:=(x3.later (Kp.of hI.old)).2;simp only[<-zBD]at y3;have z0:W.cell? ⟨g2,i,none⟩=some (.int .i64 (t i)):=h2.cell i (dV Xc t);have f0:W.frozen? ⟨g2,i,none⟩=false:=h2.aH i;have bC:¬(i:Int)=(b.ptz.length:Int):=by omega
  have hii:(i:Int)<(b.ptz.length:Int):=by omega
  have Qy:((i:Int)==(b.ptz.length:Int))=false:=by simp;omega
  rw[nL hx]at hlen⊢;have zgi:=hid hlen;have HJ:Hid (J ms O W):=hJ;have HZ:=hid hz;have IH:=ih;have Ln:Hid (b.ptz.length<=c2/\c2<=maxLen):=⟨hS.le,hS.Q5⟩
  clear hlen hJ hz ih hI h2 x0 x1 x2 x3 x4 x5 x6 hx hS hE hpo hv;go_enter ZF134,Tryz.ntmps134
  go_wp2
  obtain⟨WL,hWL⟩:=ex1 (W.setCell ⟨g2,i,none⟩ (.int .i64 x.lo));rw[hWL];have vD:Hid (aa [g2] W WL):=by rw[<-hWL];exact aa.set W (by simp) _
  have RB:Hid (aA WL g2 130 (tick (upd t i x.lo))):=by have:=H2.o.set i (.int .i64 x.lo);rwa [qA Xc,hWL]at this
  have HIL:Hid (xq W0 WL b (.slice (some ⟨blk,off,none⟩) b.ptz.length c2) v3 v4 (.func (.yield l) #[] #[]) g1 g2 g3 g4 O):=HI.o.on H2.o.lt (vD.o.mono (by simp)) (λ_ h=>.inl h);have HJL:Hid (J ms O WL):=hR.stay HJ.o vD.o.size (λk hk=>vD.o.block k (hR.own HJ.o k hk).2.1 (λh=>HI.o.n2 (by simp at h;rw[<-h];exact hk)));clear y2 y3 z0 f0 hWL
  go_loopw [32] (λ_ wr=>∃(k:Nat) (t':Nat->Int) (O':List Nat),k<=(x.hi+1-x.lo).toNat/\Hid ((∀j,j<i->t' j=t j)/\t' i=x.lo+k/\(∀j,b.ptz.length<=j->t' j=0)/\aA wr g2 130 (tick t')/\
   J (ms++(span x.lo k).flatMap λq=>di ag b.ptz n (i+1) (upd t i q)) O' wr/\(∀o∈O',o∈O\/WL.heap.size<=o)/\aa (g2::O) WL wr)) (λ_ wr=>(x.hi+1-intOf ((wr.cell? ⟨g2,i,none⟩).getD undef)).toNat)
  case atStart=>
   exact⟨0,upd t i x.lo,O,zAM _,(⟨λj hj=>az _ _ (by omega),by rw[bO];simp,λj hj=>by rw[az _ _ (by omega)];exact HZ.o j hj,RB.o,by simpa [span]using HJL.o,λ_ h=>.inl h,aa.refl _ _⟩:_/\_/\_/\_/\_/\_/\_)⟩
  case round=>
   obtain⟨k,t',O',hk,hS⟩:=hrel;obtain⟨e1,e2,e3,e4,e5,e6,e7⟩:=hS.o;have HIr:Hid (xq W0 wr b (.slice (some ⟨blk,off,none⟩) b.ptz.length c2) v3 v4 (.func (.yield l) #[] #[]) g1 g2 g3 g4 O'):=HIL.o.on RB.o.lt e7 e6;have RC:=hid e4;have HE1:=hid e1;have HE2:=hid e2;have Rv:=hid e3;have HJr:=hid e5;have Gi:Hid (∀o∈O',o∈O\/WL.heap.size<=o):=e6;have HKr:=hid e7;obtain⟨-,-,q2⟩:=HIr.o.b1.a3
   have q4:∀X:am wr,X.1.cell? ⟨blk,off+i*6+4,none⟩=some (.int .i64 x.hi):=λX=>X.cell (by
    have:=(X4.o.later (Kp.of HIr.o.old)).2;simpa only[<-zBD]using this)
   have qt:∀X:am wr,X.1.cell? ⟨g2,i,none⟩=some (.int .i64 (x.lo+k)):=λX=>X.cell (by
    have:=RC.o.cell i (dV Xc t');rwa [HE2.o]at this)
   have zm3:(i:Int)<5:=by omega
   clear e1 e2 e3 e4 e5 e6 e7 hS;by_cases av:k<(x.hi+1-x.lo).toNat
   .have hle:x.lo+(k:Int)<=x.hi:=by omega
    go_wp2
    refine ap (by kernel_rfl) (by kernel_rfl) ?_;repeat(go_big_quiet_step (fail))
    refine wpQuiet_nil ?_;rintro _ ⟨X,rfl⟩;have HIx:Hid (xq W0 X.1 b (.slice (some ⟨blk,off,none⟩) b.ptz.length c2) v3 v4 (.func (.yield l) #[] #[]) g1 g2 g3 g4 O'):=HIr.o.on RC.o.lt (.of X.2) (λ_ h=>.inl h);have HBx:Hid (aA X.1 g2 130 (tick t')):=(aa.of (O:=[]) X.2).box RC.o (by simp);have HJx:Hid (J (ms++(span x.lo k).flatMap λq=>di ag b.ptz n (i+1) (upd t i q)) O' X.1):=hR.stay HJr.o X.2.size (λk hk=>X.2.block k (hR.own HJr.o k hk).2.1);have HKx:Hid (aa (g2::O) WL X.1):=HKr.o.trans' (.of X.2);have c5:=HIx.o.b4.c1
    have HEq:Hid (di ag b.ptz n (i+1) t'=di ag b.ptz n (i+1) (upd t i (x.lo+k))):=yJ n (i+1) _ _ (by omega) (λj hj=>by
     by_cases e:j=i
     .subst e;rw[bO];exact HE2.o
     .rw[az _ _ e];exact HE1.o j (by omega)) (λj hj=>by rw[az _ _ (by omega)];exact HZ.o j hj) Rv.o
    have Pa:=zgi.o
    have hN:=IH (i+1) (by omega) t' (ms++(span x.lo k).flatMap λq=>di ag b.ptz n (i+1) (upd t i q)) O' X.1 Rv.o HIx.o HBx.o HJx.o (by
     have h1:=yL x.lo (λq=>di ag b.ptz n (i+1) (upd t i q)) av;rw[HEq.o,zAZ];omega)
    rw[show((i+1:Nat):Int)=(i:Int)+1 by omega]at hN
    have hN':Calls ZP 134 #[.int .i64 ((i:Int)+1),ptr g1,ptr g2,ptr g3,ptr g4] X.1 (λe w2=>(e=.returned (.bool true)/\w2.cell? ⟨g2,i,none⟩=some (.int .i64 (x.lo+k))/\w2.frozen? ⟨g2,i,none⟩=false/\
     Hid (vE J Jx g2 b.ptz.length (i+1) (di ag b.ptz n (i+1) t') t' (ms++(span x.lo k).flatMap λq=>di ag b.ptz n (i+1) (upd t i q)) O' X.1 (.returned (.bool true)) w2))\/
     (e=.returned (.bool false)/\Hid (di ag b.ptz n (i+1) t'≠ []/\Jx w2/\aa (g2::O') X.1 w2))):=hN.mono λe w2 h=>by
     rcases h with⟨rfl,t2,h1,h2,h3,h4⟩|⟨rfl,h⟩
     .have hc:=h3.cell i (dV Xc t2);rw[h1 i (by omega),HE2.o]at hc;exact .inl ⟨rfl,hc,h3.aH i,.inl ⟨rfl,t2,h1,h2,h3,h4⟩⟩
     .exact .inr ⟨rfl,h⟩
    clear hN IH q2 q4 qt Pa;go_wp2_with(go_at_call 134;refine hN'.mono ?_;rintro e w2 (⟨rfl,k1,k2,NM⟩|⟨rfl,NM⟩))
    .have jA:Hid (∃(t3:Nat->Int) (O3:List Nat),(∀j,j<i->t3 j=t j)/\t3 i=x.lo+((k+1:Nat):Int)/\(∀j,b.ptz.length<=j->t3 j=0)/\aA (w2.setCell ⟨g2,i,none⟩ (.int .i64 (x.lo+k+1))) g2 130 (tick t3)/\
      J (ms++(span x.lo (k+1)).flatMap λq=>di ag b.ptz n (i+1) (upd t i q)) O3 (w2.setCell ⟨g2,i,none⟩ (.int .i64 (x.lo+k+1)))/\(∀o∈O3,o∈O\/WL.heap.size<=o)/\aa (g2::O) WL (w2.setCell ⟨g2,i,none⟩ (.int .i64 (x.lo+k+1)))):=by
      rcases NM.o with⟨_,t2,h1,h2,h3,O2,vr,Iv,tW⟩|⟨h,_⟩
      .have hs:=HBx.o.lt;have zK:g2∉O2:=λh=>(vr _ h).elim HIx.o.n2 (λh=>by omega);have hsx:=HKx.o.size;refine⟨upd t2 i (x.lo+k+1),O2,λj hj=>by rw[az _ _ (by omega),h1 j (by omega)];exact HE1.o j hj,by rw[bO];omega,λj hj=>by rw[az _ _ (by omega)];exact h2 j hj,?_,?_,?_,?_⟩
       .have:=h3.set i (.int .i64 (x.lo+k+1));rwa [qA Xc]at this
       .rw[nM,zCR,<-zDK];simp only[zCW,zGB,zCP];rw[<-HEq.o];exact hR.stay Iv (by simp[World.setCell]) (λo ho=>Below.heap_setCell _ _ _ _ (λ(e:o=g2)=>zK (by rw[<-e];exact ho)))
       .exact λo ho=>(vr o ho).elim (Gi.out o) (λh=>.inr (zAP hsx h))
       .refine(HKx.o.trans tW λo ho=>?_).trans' (aa.set w2 (by simp) _);rcases zAL.1 ho with rfl|ho
        .exact .inl (by simp)
        .exact(Gi.out o ho).imp (zAR _) id
      .cases h
     obtain⟨t3,O3,r1,r2,r3,r4,r5,r6,r7⟩:=jA.o;have c6:=r4.cell i (dV Xc t3);rw[r2]at c6;have c7:=RC.o.cell i (dV Xc t');rw[HE2.o]at c7
     have sI:Hid ((∀j,j<i->t3 j=t j)/\t3 i=x.lo+((k+1:Nat):Int)/\(∀j,b.ptz.length<=j->t3 j=0)/\aA (w2.setCell ⟨g2,i,none⟩ (.int .i64 (x.lo+k+1))) g2 130 (tick t3)/\
      J (ms++(span x.lo (k+1)).flatMap λq=>di ag b.ptz n (i+1) (upd t i q)) O3 (w2.setCell ⟨g2,i,none⟩ (.int .i64 (x.lo+k+1)))/\(∀o∈O3,o∈O\/WL.heap.size<=o)/\aa (g2::O) WL (w2.setCell ⟨g2,i,none⟩ (.int .i64 (x.lo+k+1)))):=⟨r1,r2,r3,r4,r5,r6,r7⟩
     clear r1 r2 r3 r4 r5 r6 r7 jA;go_round
     case rel=>exact⟨k+1,t3,O3,by omega,sI⟩
     case measure=>
      rw[c6,c7];simp[intOf];omega
    .go_ret;refine .inr ⟨rfl,RA x.lo (λq=>di ag b.ptz n (i+1) (upd t i q)) av (by rw[<-HEq.o];exact NM.o.1),NM.o.2.1,?_⟩;refine((vD.o.mono (O':=g2::O) (by simp)).trans' (HKx.o.trans NM.o.2.2 λo ho=>?_));rcases zAL.1 ho with rfl|ho
     .exact .inl (by simp)
     .exact(Gi.out o ho).imp (zAR _) id
   .have e:k=(x.hi+1-x.lo).toNat:=by omega
    subst e;have zA:¬x.lo+(((x.hi+1-x.lo).toNat:Nat):Int)<=x.hi:=by omega
    go_wp2
    refine ap (by kernel_rfl) (by kernel_rfl) ?_;repeat(go_big_quiet_step (fail))
    refine wpQuiet_nil ?_;rintro _ ⟨X,rfl⟩;have HBx:Hid (aA X.1 g2 130 (tick t')):=(aa.of (O:=[]) X.2).box RC.o (by simp);have HJx:Hid (J (ms++(span x.lo (x.hi+1-x.lo).toNat).flatMap λq=>di ag b.ptz n (i+1) (upd t i q)) O' X.1):=hR.stay HJr.o X.2.size (λk hk=>X.2.block k (hR.own HJr.o k hk).2.1);have HKx:Hid (aa (g2::O) W X.1):=(vD.o.mono (O':=g2::O) (by simp)).trans' (HKr.o.trans' (.of X.2));clear q2 q4 qt;go_wp2
    go_ret;exact .inl ⟨rfl,t',HE1.o,Rv.o,HBx.o,O',(λo ho=>(Gi.out o ho).imp id (λh=>zAP vD.o.size h)),HJx.o,HKx.o⟩
def Kk
 (hb:ar W0 (.agg #[.int .i64 b.ak,.int .i64 b.ah,.slice a2 b.ptz.length c2,v3,v4]) b) (hv:Valid b)
 (km:∀X t,Below W0.heap.size W0 X->Calls ZP 135 #[.agg #[.int .i64 b.ak,.int .i64 b.ah,.slice a2 b.ptz.length c2,v3,v4],.agg (tick t)] X (bK X (.bool (ag t))))
 (hR:AH W0 l K J Jx) (hold:Below W0.heap.size W0 W) (hJ:J [] O W) (hlen:(di ag b.ptz b.ptz.length 0 (λ_=>0)).length<=K):
 Calls ZP 110 #[.agg #[.int .i64 b.ak,.int .i64 b.ah,.slice a2 b.ptz.length c2,v3,v4],.func (.yield l) #[] #[]] W (Gh J Jx (di ag b.ptz b.ptz.length 0 (λ_=>0)) O W):=by
 obtain⟨A0,Dt⟩:=ex1 (W.alloc (.cells #[.int .i64 b.ak,.int .i64 b.ah,.slice a2 b.ptz.length c2,v3,v4] 78));obtain⟨A1,bh⟩:=ex1 (A0.alloc (.cells #[.func (.yield l) #[] #[]] 165));obtain⟨A2,bL⟩:=ex1 (A1.alloc (.cells #[.int .i64 0,.int .i64 0,.int .i64 0,.int .i64 0,.int .i64 0] 130));obtain⟨A3,gP⟩:=ex1 (A2.alloc (.cells #[.nilFunc] 121));have Kl:=snew Dt;have eL:=snew2 bh Kl;have j8:=snew2 bL eL;have zH:=snew2 gP j8
 have b1:aA A3 W.heap.size 78 #[.int .i64 b.ak,.int .i64 b.ah,.slice a2 b.ptz.length c2,v3,v4]:=by
  rw[<-gP];refine(aa.alloc [] _ _).box ?_ (by simp);rw[<-bL];refine(aa.alloc [] _ _).box ?_ (by simp);rw[<-bh];refine(aa.alloc [] _ _).box ?_ (by simp);rw[<-Dt];exact aA.new _ _ _
 have b2:aA A3 (W.heap.size+1) 165 #[.func (.yield l) #[] #[]]:=by
  rw[<-gP];refine(aa.alloc [] _ _).box ?_ (by simp);rw[<-bL];refine(aa.alloc [] _ _).box ?_ (by simp);rw[<-bh,<-Kl];exact aA.new _ _ _
 have b3:aA A3 (W.heap.size+1+1) 130 (tick λ_=>0):=by
  rw[<-gP];refine(aa.alloc [] _ _).box ?_ (by simp);rw[<-bL,<-eL];exact aA.new _ _ _
 have b5:=(bnew2 gP j8).o;have mi:aa [] W A3:=by rw[<-gP,<-bL,<-bh,<-Dt];exact(((aa.alloc _ _ _).cU _).cU _).cU _
 obtain⟨F,hF⟩:∃F:fu,.func (.func 134) #[] #[ptr W.heap.size,ptr (W.heap.size+1+1),ptr (W.heap.size+1),ptr (W.heap.size+1+1+1)]=F:=⟨_,rfl⟩
 obtain⟨A4,pA⟩:=ex1 (A3.setCell ⟨W.heap.size+1+1+1,0,none⟩ F);have mw:aa [W.heap.size+1+1+1] A3 A4:=by rw[<-pA];exact aa.set A3 (by simp) _
 have WY:aA A4 (W.heap.size+1+1+1) 121 #[F]:=by rw[<-pA];exact b5.set 0 F
 have hO:∀k∈O,W0.heap.size<=k/\k<W.heap.size/\k∉([]:List Nat):=λk hk=>hR.own hJ k hk;have hk:aa [] W A4:=mi.trans mw (by simp;omega);have cr:=hold.size
 have hI:xq W0 A4 b (.slice a2 b.ptz.length c2) v3 v4 (.func (.yield l) #[] #[]) W.heap.size (W.heap.size+1+1) (W.heap.size+1) (W.heap.size+1+1+1) O:=by
  refine⟨mw.box b1 (by simp;omega),mw.box b2 (by simp),by rw[hF];exact WY,?_,?_,?_,?_,by omega,by omega,by omega,by omega,hold.trans (hk.below (by simp) cr),λk hx=>(hO k hx).1⟩;all_goals(intro hx;have:=(hO _ hx).2.1;omega)
 have hJ4:J [] O A4:=hR.stay hJ hk.size (λk hx=>hk.block k (hO k hx).2.1 (by simp));have hC:=Kj hb hv km hR b.ptz.length 0 (by omega) (λ_=>0) [] O A4 (λ_ _=>rfl) hI (mw.box b3 (by simp)) hJ4 (by simpa using hlen);have c5:=b5.c1;have f5:A3.frozen? ⟨W.heap.size+1+1+1,0,none⟩=false:=b5.aH 0;have c6:=WY.c1;have HK:=hid hk;rw[<-hF]at c6;clear hlen hI hJ4 hb hv hR hold hJ b1 b2 b3 b5 WY mi mw hk cr hO km;subst hF;have cu:∀(a:Addr) (f:Fn) (x y:Array fu) (w:nq),(store a (.func f x y) .plain).run ZP w=stored ZP w a (.func f x y) .plain:=λa f x y w=>run_store ZP w a _ _ rfl;go_enter ZF110,Tryz.ntmps110
 go_wp2_with(go_at_call 134;refine hC.mono ?_;rintro e w1 (⟨rfl,t2,h1,h2,hB,O2,vr,Iv,tW⟩|⟨rfl,Rq,Rr,tW⟩))
 .go_end0
  refine⟨⟨_,rfl⟩,.inl ⟨O2,(λk hk=>(vr k hk).imp id (λh=>zAP HK.o.size h)),by simpa using Iv,(HK.o.mono (O':=O) (by simp)).trans tW λx hx=>?_⟩⟩;rcases zAL.1 hx with rfl|hx
  .exact .inr (by omega)
  .exact .inl hx
 .go_end0
  refine⟨⟨_,rfl⟩,.inr ⟨Rq,Rr,(HK.o.mono (O':=O) (by simp)).trans tW λx hx=>?_⟩⟩;rcases zAL.1 hx with rfl|hx
  .exact .inr (by omega)
  .exact .inl hx
end Go.Proofs.Cz
