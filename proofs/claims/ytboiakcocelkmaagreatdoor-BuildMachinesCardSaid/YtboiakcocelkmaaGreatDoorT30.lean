/- A part. Conditions: none. -/
import Derived.Test.YtboiakcocelkmaaGreatDoorT29
import Derived.WalkMore
set_option linter.all false
set_option maxHeartbeats 8000000
set_option maxRecDepth 100000
namespace Go.Proofs.Cz
open Go.RowKit
variable {a:List Int} {b:an} {bm full k:Nat} {x:Int}
theorem Kx (b:an) (hv:Valid b):∃top full:Nat,(2<=top/\top<=16)/\full<16/\Hid ((full:Int)=(top:Int)-1)/\Hid (bj b full=true↔aN b=[])/\
 IntKind.i64.wrap (2^b.places.toNat)=(top:Int)/\wrap64 (2^b.places.toNat)=(top:Int):=by
 have jo:=hv.places;obtain⟨n,hn⟩:=ex1 (b.places.toNat);have LE:n=1\/n=2\/n=3\/n=4:=by omega
 have hE:bj b (2^n-1)=true↔aN b=[]:=by
  rw[<-hn];unfold bj;rw[decide_eq_true_iff];unfold mw aN;exact Iff.rfl
 rw[hn];rcases LE with rfl|rfl|rfl|rfl
 .exact⟨2,1,by omega,by omega,(by omega:_=_),hE,rfl,by unfold wrap64;rfl⟩
 .exact⟨4,3,by omega,by omega,(by omega:_=_),hE,rfl,by unfold wrap64;rfl⟩
 .exact⟨8,7,by omega,by omega,(by omega:_=_),hE,rfl,by unfold wrap64;rfl⟩
 .exact⟨16,15,by omega,by omega,(by omega:_=_),hE,rfl,by unfold wrap64;rfl⟩
def lexLt:List Int->List Int->Bool
 |_,[]=>false
 | [],_::_=>true
 |x::a,y::b=>decide (x<y)||(decide (x=y)&&lexLt a b)
def bZ (a b:List Int):Bool:=decide (a.length<b.length)||(decide (a.length=b.length)&&lexLt a b)
def eV (a b:List Int) (k:Nat):Prop:=∀j,j<k->a[j]?=b[j]?
theorem eV.zero (a b:List Int):eV a b 0:=fun j h=>by omega
theorem eV.succ {b:List Int} (h:eV a b k) (ha:a[k]?=some x) (hb:b[k]?=some x):eV a b (k+1):=fun j hj=>by
 by_cases e:j=k
 .subst e;rw[ha,hb]
 .exact h j (by omega)
theorem eV.tail {y:Int} {b:List Int} (h:eV (x::a) (y::b) (k+1)):x=y/\eV a b k:=
 ⟨by simpa using h 0 (by omega),fun j hj=>by simpa using h (j+1) (by omega)⟩
theorem nA:∀{a b:List Int} {k:Nat} {x y:Int},eV a b k->a[k]?=some x->b[k]?=some y->x≠y->lexLt a b=decide (x<y)
 |u::a,v::b,0,x,y,_,ha,hb,bA=>by
  simp at ha hb;subst ha hb;simp[lexLt,bA]
 |u::a,v::b,k+1,x,y,h,ha,hb,bA=>by
  obtain⟨rfl,h2⟩:=h.tail;have:=nA h2 (by simpa using ha) (by simpa using hb) bA;simp[lexLt,this]
 | [],_,_,_,_,_,ha,_,_=>by simp at ha
 |_::_,[],_,_,_,_,_,hb,_=>by simp at hb
theorem rP:∀{a b:List Int} {k:Nat},eV a b k->b.length<=k->lexLt a b=false
 |_,[],_,_,_=>by simp[lexLt]
 | [],v::b,k,h,hb=>by
   have h1:k≠0:=by intro e;subst e;simp at hb
   have:=h 0 (by omega);simp at this
 |u::a,v::b,0,_,hb=>by simp at hb
 |u::a,v::b,k+1,h,hb=>by
  obtain⟨rfl,h2⟩:=h.tail;have:=rP h2 (by simpa using hb);simp[lexLt,this]
theorem qu:∀{a b:List Int} {k:Nat},eV a b k->k=a.length->lexLt a b=decide (a.length<b.length)
 | [],[],_,_,_=>by simp[lexLt]
 | [],v::b,_,_,_=>by simp[lexLt]
 |u::a,[],k,h,e=>by simp[lexLt]
 |u::a,v::b,0,_,e=>by simp at e
 |u::a,v::b,k+1,h,e=>by
  obtain⟨rfl,h2⟩:=h.tail;have:=qu h2 (by simpa using e);simp[lexLt,this]
theorem gK (w:World) (x y:Int):Calls ZP 140 #[.int .i64 x,.int .i64 y] w (gG w (.int .i64 (if x<y then-1 else if y<x then 1 else 0))):=by
 by_cases h1:x<y
 .go_enter ZF140,Tryz.ntmps140
  go_wp2_with(go_at_call 148;refine(oJ _ _).mono ?_;rintro e w' ⟨rfl,rfl⟩)
  all_goals(go_ret;exact gG.of _ (by simp[h1]))
 .by_cases h2:y<x
  .go_enter ZF140,Tryz.ntmps140
   go_wp2_with(go_at_call 148;refine(oJ _ _).mono ?_;rintro e w' ⟨rfl,rfl⟩)
   all_goals(go_ret;exact gG.of _ (by simp[h1,h2]))
  .go_enter ZF140,Tryz.ntmps140
   go_wp2_with(go_at_call 148;refine(oJ _ _).mono ?_;rintro e w' ⟨rfl,rfl⟩)
   all_goals(go_ret;exact gG.of _ (by simp[h1,h2]))
def OC (w:World) (P:Int->Prop) (e:Ending) (w':World):Prop:=∃r,e=.returned (.int .i64 r)/\P r/\w'=w
theorem td (w:World) (v1 v2:Value) (l1 l2:List Int) (h1:ae w v1 l1) (h2:ae w v2 l2):Calls ZP 115 #[v1,v2] w (OC w fun r=>0<=r↔lexLt l1 l2=false):=by
 obtain⟨a1,c1,h1,e1⟩:=h1;obtain⟨a2,c2,h2,e2⟩:=h2;have H1:Hid (bB w v1 l1.length a1 c1/\_):=⟨h1,e1⟩
 have H2:Hid (bB w v2 l2.length a2 c2/\_):=⟨h2,e2⟩
 obtain⟨rfl,k1,m1,n1,r1⟩:=h1;obtain⟨rfl,k2,m2,n2,r2⟩:=h2;unfold maxLen at m1 m2;clear e1 e2 n1 r1 n2 r2;go_enter ZF115,Tryz.ntmps115
 go_wp2
 go_loop [11,5,6,7,8] (fun i _ _ _ _=>∃k:Nat,k<=l1.length/\i=.int .i64 k/\Hid (eV l1 l2 k)) (fun i _ _ _ _=>l1.length-(intOf i).toNat)
 case atStart=>exact⟨0,Nat.zero_le _,rfl,eV.zero _ _⟩
 case round=>
  obtain⟨k,hk,rfl,hS⟩:=hrel;by_cases az:k<l1.length
  .obtain⟨⟨blk,off,sp⟩,y,rfl,hy,y0⟩:=H1.o.1.elem H1.o.2 az;obtain rfl:sp=none:=y0.1;have g0:=y0.2;have HY:=hid hy;simp only at g0;clear y0 hy;by_cases rG:k<l2.length
   .obtain⟨⟨Yk,Yl,mJ⟩,y2,rfl,SE,y1⟩:=H2.o.1.elem H2.o.2 rG;obtain rfl:mJ=none:=y1.1;have g1:=y1.2;have PB:=hid SE;simp only at g1;clear y1 SE;rcases(show y<y2\/y2<y\/y=y2 by omega)with hc|hc|hc
    .have bA:¬y=y2:=by omega
     have hcx:=gK;go_wp2_with(go_at_call 140;refine(gK _ y y2).mono ?_;rw[if_pos hc];rintro e w' ⟨rfl,rfl⟩)
     go_ret;exact⟨-1,rfl,⟨fun h=>absurd h (by decide),fun h=>by rw[nA hS.o HY.o PB.o bA]at h;simp at h;omega⟩,rfl⟩
    .have bA:¬y=y2:=by omega
     have zb:¬y<y2:=by omega
     go_wp2_with(go_at_call 140;refine(gK _ y y2).mono ?_;rw[if_neg zb,if_pos hc];rintro e w' ⟨rfl,rfl⟩)
     go_ret;exact⟨1,rfl,⟨fun _=>by rw[nA hS.o HY.o PB.o bA];simpa using(by omega:y2<=y),fun _=>by decide⟩,rfl⟩
    .subst hc;go_wp2_with(go_at_call 140;refine(gK _ y y).mono ?_;rw[if_neg (Int.lt_irrefl _),if_neg (Int.lt_irrefl _)];rintro e w' ⟨rfl,rfl⟩)
     go_round
     case rel=>exact⟨k+1,by omega,by go_num,hS.o.succ HY.o PB.o⟩
     case measure=>simp[intOf];omega
   .go_wp2
    go_ret;exact⟨1,rfl,⟨fun _=>rP hS.o (by omega),fun _=>by decide⟩,rfl⟩
  .have e:k=l1.length:=by omega
   by_cases Uv:l1.length<l2.length
   .subst e;go_wp2
    go_ret;exact⟨-1,rfl,⟨fun h=>absurd h (by decide),fun h=>by rw[qu hS.o rfl]at h;simp at h;omega⟩,rfl⟩
   .subst e;go_wp2
    go_ret;exact⟨0,rfl,⟨fun _=>by rw[qu hS.o rfl];simpa using Uv,fun _=>by decide⟩,rfl⟩
def bq (a b:Nat):Bool:=bZ (aq a 4) (aq b 4)
theorem rQ:∀a b c:Fin 16,bq a.1 b.1=true->bq b.1 c.1=true->bq a.1 c.1=true:=by decide+kernel
theorem vS:∀a:Fin 16,bq a.1 a.1=false:=by decide+kernel
structure jk (b:an) (full k bm:Nat):Prop where
 lt:bm<=full
 is:bm=full\/bj b bm=true
 least:∀m,m<k->bj b m=true->bq m bm=false
theorem jk.skip (h:jk b full k bm) (hs:bq k bm=false\/bj b k=false):jk b full (k+1) bm:=⟨h.lt,h.is,fun m hm he=>by
 by_cases e:m=k
 .subst e;rcases hs with h1|h1
  .exact h1
  .rw[h1]at he;cases he
 .exact h.least m (by omega) he⟩
theorem jk.take (hf:full<16) (hk:k<=full) (h:jk b full k bm) (hs:bq k bm=true) (he:bj b k=true):jk b full (k+1) k:=⟨hk,.inr he,fun m hm Sk=>by
 by_cases e:m=k
 .subst e;exact vS ⟨m,by omega⟩
 .have h1:=h.least m (by omega) Sk;have hb:=h.lt;cases hx:bq m k with
  |false=>rfl
  |true=>exact absurd (rQ ⟨m,by omega⟩ ⟨k,by omega⟩ ⟨bm,by omega⟩ hx hs) (by rw[h1];decide)⟩
def OD (w:World) (b:an) (e:Ending) (w':World):Prop:=
 (∃v m,e=.returned v/\ae w' v (aq m 4)/\jk b (2^b.places.toNat-1) (2^b.places.toNat) m)/\Below w.heap.size w w'
theorem AL (w:World) (v:Value) (b:an) (hb:aB w v b) (hv:Valid b):Calls ZP 76 #[.int .i64 b.places,.func (.func 75) #[v] #[]] w (OD w b):=by
 have HB:=hid hb;have HV:Hid (Valid b):=hv;have jo:=hv.places;obtain⟨top,ju⟩:∃top:Nat,top=2^b.places.toNat:=⟨_,rfl⟩
 obtain⟨full,Ma⟩:∃full:Nat,full+1=top:=⟨2^b.places.toNat-1,by have:=Nat.two_pow_pos b.places.toNat;omega⟩
 have ht:2<=top/\top<=16:=by
  rcases(by omega:b.places=1\/b.places=2\/b.places=3\/b.places=4)with h|h|h|h<;>(rw[ju,h];decide)
 have bH:IntKind.i64.wrap (2^b.places.toNat)=(top:Int):=by
  rcases(by omega:b.places=1\/b.places=2\/b.places=3\/b.places=4)with h|h|h|h<;>(rw[ju,h];rfl)
 have eQ:wrap64 (2^b.places.toNat)=(top:Int):=by
  rcases(by omega:b.places=1\/b.places=2\/b.places=3\/b.places=4)with h|h|h|h<;>(rw[ju,h];unfold wrap64;rfl)
 have SF:wrap64 ((top:Int)-1)=(full:Int):=by unfold wrap64;omega
 have y9:full<16:=by omega
 have HTF:Hid (2^b.places.toNat-1=full/\2^b.places.toNat=top):=⟨by rw[<-ju];omega,ju.symm⟩
 have L3:Hid ((full:Int)=(top:Int)-1):=(by omega:(full:Int)=(top:Int)-1)
 have Uw:Hid (full+1=top/\top<=16):=⟨Ma,ht.2⟩
 clear hb hv ju Ma;go_enter ZF76,Tryz.ntmps76
 go_wp2
 go_step3
 have hC:=rO w full y9;rw[L3.o]at hC
 go_wp2_with(go_at_call 114
             refine hC.mono ?_;rintro e w1 ⟨⟨r,rfl,hr⟩,bu⟩;have ew:=hid bu;have HR:=hid hr;clear bu hr hC)
 clear SF;go_step3
 go_wp2
 clear bH eQ y9;go_loopw [14,5,6,7] (fun i u _ _ wr=>∃k bm:Nat,k<=top/\i=.int .i64 k/\Hid (ae wr u (aq bm 4)/\jk b full k bm)/\Hid (Below w.heap.size w wr)) (fun i _ _ _ _=>top-(intOf i).toNat)
 case atStart=>exact⟨0,full,Nat.zero_le _,rfl,⟨HR.o,Nat.le_refl _,.inl rfl,fun m h=>by omega⟩,ew⟩
 case round=>
  obtain⟨k,bm,hk,rfl,hR,hB⟩:=hrel;by_cases az:k<top
  .have PC:=rO wr k (by omega);obtain⟨L2,yx⟩:=ex1 (aq k 4);obtain⟨Lb,SG⟩:=ex1 (aq bm 4);have hL1:L2.length<=4:=by rw[<-yx];exact ii k 4
   have hL3:Lb.length<=4:=by rw[<-SG];exact ii bm 4
   have OE:Hid (bq k bm=bZ L2 Lb):=by rw[<-yx,<-SG];rfl
   have HKL:=hid yx;rw[yx]at PC;have JN:=hR.o.1;rw[SG]at JN;have HRB:=hid JN;have PD:Hid (jk b full k bm):=hR.o.2;obtain⟨a0,c0,Ym,_⟩:=JN;obtain⟨rfl,_,_,_,_⟩:=Ym;have bP:=hB.o.size;clear yx;go_wp2_with fail
   refine PC.mono ?_;rintro e w2 ⟨⟨r2,rfl,nK⟩,fk⟩;have jV:Hid (Below w.heap.size w w2):=hB.o.trans (fk.mono bP);have ta:=hid nK;have AJ:Hid (ae w2 (.slice a0 Lb.length c0) Lb):=HRB.o.later (Kp.of fk);obtain⟨a2,c2,hS2,_⟩:=nK;obtain⟨rfl,_,_,_,_⟩:=hS2;have zeC:top<=16:=ht.2;clear fk PC ht jo hR;have Ux:=hid SG;clear SG;by_cases h1:Lb.length<L2.length
   .have AM:Hid (bq k bm=false):=(by rw[OE.o];unfold bZ;simp;omega:bq k bm=false)
    have Yn:Hid (ae w2 (.slice a0 Lb.length c0) (aq bm 4)):=by rw[Ux.o];exact AJ.o
    go_wp2_with fail
    go_round
    case rel=>exact⟨k+1,bm,by omega,by go_num,⟨Yn.o,PD.o.skip (.inl AM.o)⟩,jV⟩
    case measure=>simp[intOf];omega
   .by_cases h2:L2.length=Lb.length
    .have Mb:=td _ _ _ _ _ ta.o AJ.o;cases hx:lexLt L2 Lb with
     |false=>
      have AM:Hid (bq k bm=false):=(by rw[OE.o];unfold bZ;simp[hx,h2]:bq k bm=false)
      have Yn:Hid (ae w2 (.slice a0 Lb.length c0) (aq bm 4)):=by rw[Ux.o];exact AJ.o
      rw[hx]at Mb;clear hx h1;rw[h2]at Mb⊢
      go_wp2_with(go_at_call 115
                  refine Mb.mono ?_;rintro e w3 ⟨x,rfl,BA,rfl⟩;have qa:0<=x:=(by simpa using BA)
                  clear Mb BA)
      go_round
      case rel=>exact⟨k+1,bm,by omega,by go_num,⟨Yn.o,PD.o.skip (.inl AM.o)⟩,jV⟩
      case measure=>simp[intOf];omega
     |true=>
      have AM:Hid (bq k bm=true):=(by rw[OE.o];unfold bZ;simp[hx,h2]:bq k bm=true)
      rw[hx]at Mb;clear hx h1;rw[h2]at Mb ta⊢
      go_wp2_with(first
       |(go_at_call 115
         refine Mb.mono ?_;rintro e w3 ⟨x,rfl,BA,rfl⟩;have qa:¬0<=x:=fun h=>Bool.noConfusion (BA.1 h);clear Mb BA)
       |(go_at_call 75
         refine(oI _ _ b k (by omega) (HB.o.later (Kp.of jV.o)) HV.o).mono ?_;rintro e w3 ⟨rfl,qv⟩;have iP:=jV.t qv;have Ky:Hid (ae w3 (.slice a0 Lb.length c0) (aq bm 4)):=(by rw[Ux.o];exact AJ.o.later (Kp.of qv))
         have Cm:Hid (ae w3 (.slice a2 Lb.length c2) (aq k 4)):=(by rw[HKL.o];exact ta.o.later (Kp.of qv))
         obtain⟨r3,Eu⟩:=ex1 (bj b k);have SH:=hid Eu;rw[Eu];clear qv AJ ta Eu;cases r3))
      .go_round
       case rel=>exact⟨k+1,bm,by omega,by go_num,⟨Ky.o,PD.o.skip (.inr SH.o)⟩,iP⟩
       case measure=>simp[intOf];omega
      .go_round
       case rel=>exact⟨k+1,k,by omega,by go_num,⟨Cm.o,PD.o.take (by have:=Uw.o;omega) (by have:=Uw.o;omega) AM.o SH.o⟩,iP⟩
       case measure=>simp[intOf];omega
    .have AM:Hid (bq k bm=true):=(by rw[OE.o];unfold bZ;simp;omega:bq k bm=true)
     have h2i:¬(L2.length:Int)=(Lb.length:Int):=by omega
     go_wp2_with(go_at_call 75
                 refine(oI _ _ b k (by omega) (HB.o.later (Kp.of jV.o)) HV.o).mono ?_;rintro e w3 ⟨rfl,qv⟩;have iP:=jV.t qv;have Ky:Hid (ae w3 (.slice a0 Lb.length c0) (aq bm 4)):=(by rw[Ux.o];exact AJ.o.later (Kp.of qv))
                 have Cm:Hid (ae w3 (.slice a2 L2.length c2) (aq k 4)):=(by rw[HKL.o];exact ta.o.later (Kp.of qv))
                 obtain⟨r3,Eu⟩:=ex1 (bj b k);have SH:=hid Eu;rw[Eu];clear qv AJ ta Eu;cases r3)
     .go_round
      case rel=>exact⟨k+1,bm,by omega,by go_num,⟨Ky.o,PD.o.skip (.inr SH.o)⟩,iP⟩
      case measure=>simp[intOf];omega
     .go_round
      case rel=>exact⟨k+1,k,by omega,by go_num,⟨Cm.o,PD.o.take (by have:=Uw.o;omega) (by have:=Uw.o;omega) AM.o SH.o⟩,iP⟩
      case measure=>simp[intOf];omega
  .have e:k=top:=by omega
   subst e;obtain⟨a0,c0,Ym,_⟩:=hR.o.1;obtain⟨rfl,_,_,_,_⟩:=Ym;go_wp2
   rw[Exit.noGoto_ret];go_ret;refine⟨⟨_,bm,rfl,hR.o.1,?_⟩,hB.o⟩;rw[HTF.o.1,HTF.o.2];exact hR.o.2
structure DU (b:an) (m:Nat):Prop where
 lt:m<2^b.places.toNat
 none:bj b m=true
 least:∀m',m'<2^b.places.toNat->bj b m'=true->bq m' m=false
theorem rR (hv:Valid b) (h0:aN b=[]) {m:Nat} (h:jk b (2^b.places.toNat-1) (2^b.places.toNat) m):DU b m:=by
 have h1:=Nat.two_pow_pos b.places.toNat;refine⟨by have:=h.lt;omega,?_,h.least⟩;rcases h.is with rfl|h2
 .unfold bj;rw[decide_eq_true_iff];exact h0
 .exact h2
def OF (w:World) (b:an) (e:Ending) (w':World):Prop:=
 ((aN b≠ []/\e=.returned (.tuple #[.slice none 0 0,.int .i64 0]))\/(aN b=[]/\∃v m,e=.returned (.tuple #[v,.int .i64 0])/\ae w' v (aq m 4)/\DU b m))/\Below w.heap.size w w'
theorem GW (w:World) (v:Value) (b:an) (hb:aB w v b) (hv:Valid b) (hc:lq w):Calls ZP 24 #[v] w (OF w b):=by
 have HB:=hid hb;have HV:Hid (Valid b):=hv;have jo:=hv.places;obtain⟨v2,v3,v4,rfl,⟨a2,c2,⟨rfl,_,_,_,_⟩,_⟩,⟨a3,c3,⟨rfl,_,_,_,_⟩,_⟩,⟨a4,c4,⟨rfl,_,_,_,_⟩,_⟩⟩:=hb;have hC:=jF (w.alloc (.cells #[.int .i64 b.ap,.int .i64 b.places,.slice a2 b.parts.length c2,.slice a3 b.apart.length c3,.slice a4 b.aa.length c4] 26)) _ _ (HB.o.later (Kp.alloc w _)) hv (hc.later ((Below.refl _ _).alloc (Nat.le_refl _) _));obtain⟨top,full,ht,y9,L3,HE,bH,eQ⟩:=Kx b hv;clear hv hc;go_enter ZF24,Tryz.ntmps24
 go_wp2_with(go_at_call 20
             refine hC.mono ?_;rintro e w1 ⟨⟨r,rfl,rfl⟩,bu⟩;have ew:Hid (Below (w.heap.size+1) _ w1):=bu.iH;obtain⟨s0,s1,s2,s3,s4⟩:=mr.DO ew.o;clear hC bu)
 obtain⟨W5,PE⟩:=ex1 (w1.alloc (.cells #[.int .i64 b.ap,.int .i64 b.places,.slice a2 b.parts.length c2,.slice a3 b.apart.length c3,.slice a4 b.aa.length c4] 66));have b5:=(bnew PE).o
 have OG:Hid (aB W5 (.agg #[.int .i64 b.ap,.int .i64 b.places,.slice a2 b.parts.length c2,.slice a3 b.apart.length c3,.slice a4 b.aa.length c4]) b):=(by
  rw[<-PE];exact(HB.o.later (Kp.boxed ew.o)).later (Kp.alloc w1 _))
 have HK5:Hid (Below w.heap.size w W5):=(by
  rw[<-PE];have hs:=ew.o.size;simp at hs;exact Below.boxed (ew.o.trans (((Below.refl _ w1).alloc (Nat.le_refl _) _).mono hs)))
 have p1:∀X:ah W5,X.1.cell? ⟨w.heap.size,1,none⟩=some (.int .i64 b.places):=fun X=>X.cell (by
  rw[<-PE];exact(ee (by have hs:=ew.o.size;simp at hs;exact hs) _).trans s1)
 obtain⟨q0,q1,q2,q3,q4⟩:=b5.a5
 have SI:∀X:ah W5,Calls ZP 75 #[.agg #[.int .i64 b.ap,.int .i64 b.places,.slice a2 b.parts.length c2,.slice a3 b.apart.length c3,.slice a4 b.aa.length c4],.int .i64 ((top:Int)-1)] X.1
  (fun e gI=>e=.returned (.bool (bj b full))/\∃Y:ah W5,gI=Y.1):=fun X=>by
  rw[<-L3.o];exact(oI X.1 _ b full y9 (OG.o.later X.kp) HV.o).mono fun e w' h=>⟨h.1,X.on h.2⟩
 rw[PE];clear b5 s0 s1 s2 s3 s4 HB ew PE;generalize bj b full=r at HE SI;cases r with
 |false=>
  refine aj (by kernel_rfl) (by kernel_rfl) ?_;go_big_quiet_step (fail)
  go_big_quiet_step (fail)
  go_big_quiet_step (fail)
  go_big_quiet_step (fail)
  clear bH eQ;repeat(go_big_quiet_step (first|(go_at_call 75;exact SI _)))
  refine wpQuiet_nil ?_;rintro _ ⟨X,rfl⟩;have HX:=HK5.t X.2;clear ht jo SI;go_wp2
  go_ret2;exact⟨.inl ⟨fun h=>Bool.noConfusion (HE.o.2 h),rfl⟩,HX.o⟩
 |true=>
  refine aj (by kernel_rfl) (by kernel_rfl) ?_;go_big_quiet_step (fail)
  go_big_quiet_step (fail)
  go_big_quiet_step (fail)
  go_big_quiet_step (fail)
  clear bH eQ;repeat(go_big_quiet_step (first|(go_at_call 75;exact SI _)))
  refine wpQuiet_nil ?_;rintro _ ⟨X,rfl⟩;have HX:=HK5.t X.2;have hC4:=AL X.1 _ b (OG.o.later X.kp) HV.o;have hM:Hid (aN b=[]):=HE.o.1 rfl;clear ht jo SI
  go_wp2_with(go_at_call 76
              refine hC4.mono ?_;rintro e w2 ⟨⟨vl,bm,rfl,hvl,Iv⟩,fk⟩;have jV:=HX.t fk;have HVL:Hid (ae w2 vl (aq bm 4)/\jk b (2^b.places.toNat-1) (2^b.places.toNat) bm):=⟨hvl,Iv⟩
              clear fk hvl Iv)
  go_ret2;exact⟨.inr ⟨hM.o,vl,bm,rfl,HVL.o.1,rR HV.o hM.o HVL.o.2⟩,jV.o⟩
def lJ (w:World) (v:Value) (e:Ending) (w':World):Prop:=e=.returned v/\∃n,w'=w.drewN n
theorem lJ.of {w w':World} {x y:Bool} (h:y=x) (hw:∃n,w'=w.drewN n):lJ w (.bool y) (.returned (.bool x)) w':=⟨by rw[h],hw⟩
end Go.Proofs.Cz
namespace Go.Proofs.Cz
end Go.Proofs.Cz
namespace Go.Proofs.Cz
open Go.RowKit
variable {A w w':World} {B g:Nat} {cs:Array Value} {t:TypeId}
theorem gL {B':Nat} {e:TypeId} {s:Nat} {v:Value} {n:Nat} {xs:List Value} (h:w.ownsRow B e s v n xs) (hB:B'<=B):w.ownsRow B' e s v n xs:=by
 obtain⟨h1,h|⟨g,cap,cur,rfl,hg,r⟩⟩:=h
 .exact⟨h1,.inl h⟩
 .exact⟨h1,.inr ⟨g,cap,cur,rfl,by omega,r⟩⟩
theorem aX.below (h:aX A g t cs) (k:Below B A w') (hg:g<B):aX w' g t cs:=(k.block g hg).trans h
theorem hidb (h:Hid (aX A g t cs)) (k:Below A.heap.size A w'):Hid (aX w' g t cs):=h.out.below k h.out.lt
theorem eM {P:Nat} (h:aX w P t cs):∀j u,cs.toList[j]?=some u->w.cell? ((⟨P,0,none⟩:Addr).add j)=some u:=fun j u hu=>by
 have Ab:(⟨P,0,none⟩:Addr).add j=⟨P,j,none⟩:=by unfold Addr.add;split<;>simp_all
 rw[Ab];exact h.cell j (by simpa using hu)
attribute [local go_sem] Oper.semAt_some
end Go.Proofs.Cz
