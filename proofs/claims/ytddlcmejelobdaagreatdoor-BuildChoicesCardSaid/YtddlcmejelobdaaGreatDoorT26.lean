/- A part. Conditions: none. -/
import Derived.Test.YtddlcmejelobdaaGreatDoorT25
import Derived.Laws.StructEq
set_option linter.all false
set_option maxHeartbeats 8000000
noncomputable section
namespace Go.Proofs.Cz
open Go.RowKit
variable {k:Nat} {p q:Int} {w w0:nq} {x:Int×Int}
@[go_sem] theorem Xh:ZP.eqGuardType ZP.depth 53=false:=by kernel_rfl
structure wg (n:Int) (x:Int×Int):Prop where
 one:0<=x.1/\x.1<=n-1
 two:0<=x.2/\x.2<=n-1
 le:x.1<=x.2
def jl (l:List (Int×Int)) (x:Int×Int) (k:Nat):Prop:=∀j y,j<k->l[j]?=some y->y≠x
def jl.zero (l:List (Int×Int)) (x:Int×Int):jl l x 0:=λj y h=>by omega
def jl.succ {l:List (Int×Int)} {y:Int×Int} (h:jl l x k) (hy:l[k]?=some y) (bu:y≠x):jl l x (k+1):=λj z hj hz=>by
 by_cases e:j=k
 .subst e;rw[hy]at hz;cases hz;exact bu
 .exact h j z (by omega) hz
def RM (n:Int) (l:List (Int×Int)) (k:Nat):Prop:=∀j x,j<k->l[j]?=some x->wg n x/\jl l x j
structure mv (b:aj):Prop where
 many:b.cj.length<=5
 all:RM b.ptz.length b.cj b.cj.length
def AG (x:Int×Int) (p q:Int):Prop:=x.1=p/\x.2=q\/x.1=q/\x.2=p
def Apart (l:List (Int×Int)) (p q:Int):Prop:=∃x∈l,AG x p q
def tu (l:List (Int×Int)) (p q:Int) (k:Nat):Prop:=∀j x,j<k->l[j]?=some x->¬AG x p q
def tu.zero (l:List (Int×Int)) (p q:Int):tu l p q 0:=λj y h=>by omega
def tu.succ {l:List (Int×Int)} (h:tu l p q k) (hy:l[k]?=some x) (bu:¬AG x p q):tu l p q (k+1):=λj z hj hz=>by
 by_cases e:j=k
 .subst e;rw[hy]at hz;cases hz;exact bu
 .exact h j z (by omega) hz
def tu.all {l:List (Int×Int)} (h:tu l p q l.length):¬Apart l p q:=λ⟨x,hm,hx⟩=>by
 obtain⟨j,hj,rfl⟩:=zBX hm;exact h j _ hj (zAI hj) hx
def tv (w:nq) (v:fu) (b:aj) (p q:Int) (hb:az w v b):
 Calls ZP 112 #[v,.int .i64 p,.int .i64 q] w (dF w λr=>Tr r (Apart b.cj p q)):=by
 obtain⟨v2,v3,v4,rfl,h2,⟨a3,c3,h3,f3⟩,h4⟩:=hb;have H3:Hid (bi w v3 b.cj.length a3 c3/\_):=⟨h3,f3⟩
 obtain⟨rfl,l3,m3,n3,r3⟩:=h3;obtain⟨a2,c2,⟨rfl,_,_,_,_⟩,_⟩:=h2;obtain⟨a4,c4,⟨rfl,_,_,_,_⟩,_⟩:=h4;unfold maxLen at m3;go_enter ZF112,Tryz.ntmps112
 go_wp2
 go_loopw [7] (λi w1=>∃k:Nat,k<=b.cj.length/\Hid (tu b.cj p q k)/\i=.int .i64 k/\Hid (Below (w.heap.size+1) (w.alloc (.cells (bx b a2 c2 a3 c3 a4 c4) 26)) w1)) (λi _=>b.cj.length-(intOf i).toNat)
 case atStart=>exact⟨0,zAJ _,.zero _ _ _,rfl,Below.refl _ _⟩
 case round=>
  obtain⟨k,hk,hN,rfl,hB⟩:=hrel;have g3:=boxed hB.o 3;simp only[zCC,zBI,zBB]at g3;by_cases au:k<b.cj.length
  .obtain⟨⟨blk,off,sp⟩,⟨xa,xb⟩,rfl,hx,x0,x1⟩:=H3.o.1.elem H3.o.2 au;obtain rfl:sp=none:=x0.1;have HX:=hid hx;have y0:=(x0.later (Kp.boxed hB.o)).2;have y1:=(x1.later (Kp.boxed hB.o)).2;simp only[<-zBD]at y0 y1;have kd:w.heap.size+1<=wr.heap.size:=by have:=hB.o.size;simp at this;omega
   have HZ:=hid kd;by_cases e:AG (xa,xb) p q
   .have hm:=zAT HX.o;rcases(show xa=p/\xb=q\/xa=q/\xb=p from e)with⟨rfl,rfl⟩|⟨rfl,rfl⟩
    .go_wp2
     go_ret;exact dF.mk (.yes ⟨_,hm,.inl ⟨rfl,rfl⟩⟩) (Below.one (Below.boxed hB.o) (by omega) _ 0)
    .by_cases e3:xa=xb
     .subst e3;go_wp2
      go_ret;exact dF.mk (.yes ⟨_,hm,.inl ⟨rfl,rfl⟩⟩) (Below.one (Below.boxed hB.o) (by omega) _ 0)
     .go_wp2
      go_ret;exact dF.mk (.yes ⟨_,hm,.inr ⟨rfl,rfl⟩⟩) (Below.one (Below.boxed hB.o) (by omega) _ 0)
   .have HE:=hid e;have e1:¬(xa=p/\xb=q):=λh=>e (.inl h);have e2:¬(xa=q/\xb=p):=λh=>e (.inr h);by_cases a1:xa=p
    .subst a1;have a2:¬xb=q:=λh=>e1 ⟨rfl,h⟩;by_cases a3:xa=q
     .subst a3;go_wp2
      go_round
      case rel=>exact⟨k+1,by omega,hN.o.succ HX.o HE.o,by go_num,Below.one hB.o HZ.o _ 0⟩
      case measure=>simp[intOf];omega
     .clear e2;go_wp2
      go_round
      case rel=>exact⟨k+1,by omega,hN.o.succ HX.o HE.o,by go_num,Below.one hB.o HZ.o _ 0⟩
      case measure=>simp[intOf];omega
    .clear e1;by_cases a3:xa=q
     .subst a3;have a4:¬xb=p:=λh=>e2 ⟨rfl,h⟩;go_wp2
      go_round
      case rel=>exact⟨k+1,by omega,hN.o.succ HX.o HE.o,by go_num,Below.one hB.o HZ.o _ 0⟩
      case measure=>simp[intOf];omega
     .clear e2;go_wp2
      go_round
      case rel=>exact⟨k+1,by omega,hN.o.succ HX.o HE.o,by go_num,Below.one hB.o HZ.o _ 0⟩
      case measure=>simp[intOf];omega
  .go_wp2
   go_ret;have e:k=b.cj.length:=by omega
   subst e;exact dF.mk (.no hN.o.all) (Below.boxed hB.o)
def ak (w0:nq):Type:={w:nq//Below w0.heap.size w0 w}
instance (w0 : nq) : Nonempty (ak w0) := ⟨⟨w0, Below.refl _ _⟩⟩
def ak.cell (X:ak w0) {a:Addr} {v:fu} (h:w0.cell? a=some v):X.1.cell? a=some v:=by
 have hk:a.block<w0.heap.size:=by
  unfold World.cell? at h;split at h
  .rename_i hx;exact(zAC.1 hx).1
  .cases h
 exact(World.cell?_of_block (X.2.block _ hk)).trans h
def ak.kp (X:ak w0):Kp w0 X.1:=Kp.of X.2
def ak.on (X:ak w0) (h:Below X.1.heap.size X.1 w):∃Y:ak w0,w=Y.1:=⟨⟨w,X.2.trans (h.mono X.2.size)⟩,rfl⟩
def ak.same (X:ak w0) (h:w=X.1):∃Y:ak w0,w=Y.1:=⟨X,h⟩
def ae {P:un} {id:Nat} {Q:Exit->Act->nq->Prop} {a:Act} {l:List Oper} (hm:P.follows .mixedOrders=true) (hB:Region.lexB .any l.toArray=true)
 (h:wpQuiet P l.toArray (λw'=>∃X:ak w,w'=X.1) (λa'=>∀w',(∃X:ak w,w'=X.1)->Q .normal a' w') l a):(Code.region id l.toArray true).wp P Q a w:=
 wp_region_quiet (C:=λw'=>∃X:ak w,w'=X.1) hm hB ⟨⟨_,Below.drewN (Below.refl _ w) 1⟩,rfl⟩ (by simpa using h)
def oV (l:List Int) (n:Int) (k:Nat):Prop:=∀(j:Nat) (x:Int),j<k->l[j]?=some x->0<=x/\x<=n-1
def oV.zero (l:List Int) (n:Int):oV l n 0:=λj y h=>by omega
def oV.succ {l:List Int} {n x:Int} (h:oV l n k) (hy:l[k]?=some x) (bu:0<=x/\x<=n-1):oV l n (k+1):=λj z hj hz=>by
 by_cases e:j=k
 .subst e;rw[hy]at hz;cases hz;exact bu
 .exact h j z (by omega) hz
structure IW (b:aj) (l:List Int) (j:Nat) (x:Int):Prop where
 fits:∃P,b.ptz[x.toNat]?=some P/\(j:Int)∈P.fits
 Zq:0<j->∀y,l[j-1]?=some y->¬Apart b.cj y x
def mU (b:aj) (l:List Int) (k:Nat):Prop:=∀j x,j<k->l[j]?=some x->IW b l j x
def mU.zero (b:aj) (l:List Int):mU b l 0:=λj y h=>by omega
def mU.succ {b:aj} {l:List Int} {x:Int} (h:mU b l k) (hy:l[k]?=some x) (bu:IW b l k x):mU b l (k+1):=λj z hj hz=>by
 by_cases e:j=k
 .subst e;rw[hy]at hz;cases hz;exact bu
 .exact h j z (by omega) hz
structure mw (b:aj) (l:List Int):Prop where
 len:(l.length:Int)=b.aq
 range:oV l b.ptz.length l.length
 fit:mU b l l.length
open Classical in
def cH (b:aj) (l:List Int):Int:=
 if(l.length:Int)=b.aq then if oV l b.ptz.length l.length then if mU b l l.length then 0 else 3 else 6 else 2
section
variable {b:aj} {l:List Int}
def my (h:¬(l.length:Int)=b.aq):2=cH b l:=by unfold cH;rw[zAG h]
def nR (h:(l.length:Int)=b.aq) (h2:¬oV l b.ptz.length l.length):6=cH b l:=by unfold cH;rw[zAE h,zAG h2]
def il (h:(l.length:Int)=b.aq) (h2:oV l b.ptz.length l.length) (h3:¬mU b l l.length):3=cH b l:=by unfold cH;rw[zAE h,zAE h2,zAG h3]
def nS (h:mw b l):0=cH b l:=by unfold cH;rw[zAE h.len,zAE h.range,zAE h.fit]
def eU:cH b l=0↔mw b l:=by
 refine⟨λh=>?_,λh=>(nS h).symm⟩;by_cases h1:(l.length:Int)=b.aq
 .by_cases h2:oV l b.ptz.length l.length
  .by_cases h3:mU b l l.length
   .exact⟨h1,h2,h3⟩
   .rw[<-il h1 h2 h3]at h;cases h
  .rw[<-nR h1 h2]at h;cases h
 .rw[<-my h1]at h;cases h
end
structure uh (w:nq) (g:Nat) (v0 v1 v2 v3 v4:fu):Prop where
 c0:w.cell? ⟨g,0,none⟩=some v0
 c1:w.cell? ⟨g,1,none⟩=some v1
 c2:w.cell? ⟨g,2,none⟩=some v2
 c3:w.cell? ⟨g,3,none⟩=some v3
 c4:w.cell? ⟨g,4,none⟩=some v4
def uh.of {w1:nq} {v0 v1 v2 v3 v4:fu} (h:Below (w.heap.size+1) (w.alloc (.cells #[v0,v1,v2,v3,v4] 26)) w1):uh w1 w.heap.size v0 v1 v2 v3 v4:=
 ⟨boxed h 0,boxed h 1,boxed h 2,boxed h 3,boxed h 4⟩
def ru (w:nq) (v vl:fu) (b:aj) (l:List Int) (hb:az w v b) (hl:ah w vl l):
 Calls ZP 107 #[v,vl] w (bg w λs=>s=cH b l):=by
 have HB:=hid hb;obtain⟨v2,v3,v4,rfl,⟨a2,c2,h2,f2⟩,⟨a3,c3,⟨rfl,_,_,_,_⟩,_⟩,⟨a4,c4,⟨rfl,_,_,_,_⟩,_⟩⟩:=hb;obtain⟨al,cl,tW,fl⟩:=hl;have H2:Hid (bi w v2 b.ptz.length a2 c2/\_):=⟨h2,f2⟩
 have HL:Hid (bi w vl l.length al cl/\_):=⟨tW,fl⟩
 obtain⟨rfl,l2,m2,n2,r2⟩:=h2;obtain⟨rfl,ll,ml,nl,rl⟩:=tW;unfold maxLen at m2 ml;have lL:wrap64 ((b.ptz.length:Int)-1)=b.ptz.length-1:=by unfold wrap64;omega
 go_enter ZF107,Tryz.ntmps107
 by_cases hlen:(l.length:Int)=b.aq
 case neg=>
  go_wp2
  go_ret;exact bg.mk (r:=2) (my hlen) ((Below.refl _ _).alloc (zAA _) _)
 have wh:=hid hlen;have bu:((l.length:Int)!=b.aq)=false:=by simp[hlen]
 go_wp2
 go_loopw [5] (λi w1=>∃k:Nat,k<=l.length/\Hid (oV l b.ptz.length k)/\i=.int .i64 k/\Hid (Below (w.heap.size+1) (w.alloc (.cells (bx b a2 c2 a3 c3 a4 c4) 26)) w1)) (λi _=>l.length-(intOf i).toNat)
 case atStart=>exact⟨0,zAJ _,.zero _ _,rfl,Below.refl _ _⟩
 case round=>
  obtain⟨k,hk,hN,rfl,hB⟩:=hrel;obtain⟨g0,g1,g2,g3,g4⟩:=uh.of hB.o;by_cases au:k<l.length
  .obtain⟨⟨blk,off,sp⟩,x,rfl,hx,x0⟩:=HL.o.1.elem HL.o.2 au;obtain rfl:sp=none:=x0.1;have HX:=hid hx;have y0:=(x0.later (Kp.boxed hB.o)).2;simp only at y0;have kE:(k:Int)<(l.length:Int):=by omega
   by_cases e:0<=x/\x<=(b.ptz.length:Int)-1
   .have HE:=hid e;have hd:(decide (0<=x)&&decide (x<=(b.ptz.length:Int)-1))=true:=by simpa using e
    go_wp2
    go_quiet ((go_at_call 12;exact(pX _ _ _ _).mono λe w' h=>⟨h.1.trans (by rw[hd]),_,h.2⟩))
    go_wp2
    go_round
    case rel=>exact⟨k+1,by omega,hN.o.succ HX.o HE.o,by go_num,Below.drewN hB.o _⟩
    case measure=>simp[intOf];omega
   .have HE:=hid e
    have hd:(decide (0<=x)&&decide (x<=(b.ptz.length:Int)-1))=false:=by
     cases hh:(decide (0<=x)&&decide (x<=(b.ptz.length:Int)-1))with
     |false=>rfl
     |true=>exact absurd (by simpa using hh) e
    go_wp2
    go_quiet ((go_at_call 12;exact(pX _ _ _ _).mono λe w' h=>⟨h.1.trans (by rw[hd]),_,h.2⟩))
    go_wp2
    go_ret;exact bg.mk (r:=6) (nR wh.o λh=>HE.o (h k x au HX.o)) (Below.drewN (Below.boxed hB.o) _)
  .have HN:Hid (oV l b.ptz.length l.length):=(by have e:k=l.length:=(by omega);subst e;exact hN.o)
   go_wp2
   go_loopw [6] (λi w1=>∃k:Nat,k<=l.length/\Hid (mU b l k)/\i=.int .i64 k/\Hid (Below (w.heap.size+1) (w.alloc (.cells (bx b a2 c2 a3 c3 a4 c4) 26)) w1)) (λi _=>l.length-(intOf i).toNat)
   case atStart=>exact⟨0,zAJ _,.zero _ _,rfl,hB.o⟩
   case round=>
    skip;obtain⟨k,hk,hN,rfl,hB⟩:=hrel;have gg:=uh.of hB.o;by_cases au:k<l.length
    .obtain⟨⟨blk,off,sp⟩,x,rfl,hx,x0⟩:=HL.o.1.elem HL.o.2 au;obtain rfl:sp=none:=x0.1;obtain⟨xn,rfl⟩:=Int.eq_ofNat_of_zero_le (HN.o k x au hx).1;have hxr:=(HN.o k xn au hx).2;have H6:xn<b.ptz.length:=by omega
     obtain⟨⟨pb,po,ps⟩,P,rfl,hP,_,_,_,_,_,vf,p5,xP⟩:=H2.o.1.elem H2.o.2 H6;obtain rfl:ps=none:=p5.1;have hf:=xP;obtain⟨af,cf,⟨rfl,_,_,_,_⟩,_⟩:=xP;have HX:Hid (l[k]?=some (xn:Int)/\b.ptz[xn]?=some P):=⟨hx,hP⟩
     have G0:=λX:ak wr=>X.cell gg.c0;have G1:=λX:ak wr=>X.cell gg.c1;have G2:=λX:ak wr=>X.cell gg.c2;have G3:=λX:ak wr=>X.cell gg.c3;have G4:=λX:ak wr=>X.cell gg.c4;have Y0:=λX:ak wr=>X.cell (x0.later (Kp.boxed hB.o)).2;have Y5:=λX:ak wr=>X.cell (p5.later (Kp.boxed hB.o)).2;simp only[<-zBD]at Y0 Y5;have kE:(k:Int)<(l.length:Int):=by omega
     have hx2:(xn:Int)<(b.ptz.length:Int):=by omega
     have hz:Hid (w.heap.size+1<=wr.heap.size):=by have:=hB.o.size;simp at this;exact(by omega:w.heap.size+1<=wr.heap.size)
     have ui:∀X:ak wr,Calls ZP 77 #[.slice af P.fits.length cf,.int .i64 k] X.1 (λe iL=>e=.returned (.bool (decide ((k:Int)∈P.fits)))/\∃Y:ak wr,iL=Y.1):=λX=>
      (AC _ _ _ _ ((hf.later (Kp.boxed hB.o)).later X.kp)).mono λe w' h=>⟨h.1,X.same h.2⟩
     by_cases pH:(k:Int)∈P.fits
     .have HF:Hid (∃P,b.ptz[((xn:Int)).toNat]?=some P/\(k:Int)∈P.fits):=⟨P,by simpa using HX.o.2,pH⟩
      rw[zCK pH]at ui;by_cases qA:0<k
      .obtain⟨b',z,AF,YG,z0⟩:=HL.o.1.elem HL.o.2 (show k-1<l.length by omega);cases AF;have Z0:=λX:ak wr=>X.cell (z0.later (Kp.boxed hB.o)).2;simp only at Z0;have HZ:=hid YG;have oT:wrap64 ((k:Int)-1)=((k-1:Nat):Int):=by unfold wrap64;omega
       have lP:(0:Int)<(k:Int):=by omega
       have qv:((k-1:Nat):Int)<(l.length:Int):=by omega
       have qb:∀X:ak wr,Calls ZP 112 #[.agg #[.int .i64 b.aB,.int .i64 b.aq,.slice (some ⟨pb,po,none⟩) b.ptz.length c2,.slice a3 b.cj.length c3,.slice a4 b.cR.length c4],.int .i64 z,.int .i64 xn] X.1 (λe iL=>(∃r,e=.returned (.bool r)/\Tr r (Apart b.cj z xn))/\∃Y:ak wr,iL=Y.1):=λX=>
        (tv _ _ _ _ _ ((HB.o.later (Kp.boxed hB.o)).later X.kp)).mono λe w' h=>⟨h.1,X.on h.2⟩
       by_cases wi:Apart b.cj z xn
       .have HA:=hid wi
        have qb:∀X:ak wr,Calls ZP 112 #[.agg #[.int .i64 b.aB,.int .i64 b.aq,.slice (some ⟨pb,po,none⟩) b.ptz.length c2,.slice a3 b.cj.length c3,.slice a4 b.cR.length c4],.int .i64 z,.int .i64 xn] X.1 (λe iL=>e=.returned (.bool true)/\∃Y:ak wr,iL=Y.1):=λX=>
         (qb X).mono λe w' ⟨⟨r,h1,h2⟩,h3⟩=>⟨by rw[h1,h2.2 wi],h3⟩
        go_wp2
        refine ae (by kernel_rfl) (by kernel_rfl) ?_;repeat(go_big_quiet_step (first|(go_at_call 77;exact ui _)|(go_at_call 112;exact qb _)))
        refine wpQuiet_nil ?_;rintro _ ⟨X,rfl⟩;go_wp2
        go_ret;exact bg.mk (r:=3) (il wh.o HN.o λh=>(h k _ au HX.o.1).Zq qA z HZ.o HA.o) ((Below.boxed hB.o).trans (X.2.mono (zAM (zCU _) hz.o)))
       .have HA:Hid (IW b l k xn):=⟨HF.o,λ_ y hy=>by rw[HZ.o]at hy;cases hy;exact wi⟩
        have qb:∀X:ak wr,Calls ZP 112 #[.agg #[.int .i64 b.aB,.int .i64 b.aq,.slice (some ⟨pb,po,none⟩) b.ptz.length c2,.slice a3 b.cj.length c3,.slice a4 b.cR.length c4],.int .i64 z,.int .i64 xn] X.1 (λe iL=>e=.returned (.bool false)/\∃Y:ak wr,iL=Y.1):=λX=>
         (qb X).mono λe w' ⟨⟨r,h1,h2⟩,h3⟩=>⟨by cases r with
           |false=>exact h1
           |true=>exact absurd h2.t wi,h3⟩
        go_wp2
        refine ae (by kernel_rfl) (by kernel_rfl) ?_;repeat(go_big_quiet_step (first|(go_at_call 77;exact ui _)|(go_at_call 112;exact qb _)))
        refine wpQuiet_nil ?_;rintro _ ⟨X,rfl⟩;go_wp2
        go_round
        case rel=>exact⟨k+1,by omega,hN.o.succ HX.o.1 HA.o,by go_num,hB.o.trans (X.2.mono hz.o)⟩
        case measure=>simp[intOf];omega
      .have HA:Hid (IW b l k xn):=⟨HF.o,λh=>absurd h qA⟩
       have lP:¬(0:Int)<(k:Int):=by omega
       go_wp2
       refine ae (by kernel_rfl) (by kernel_rfl) ?_;repeat(go_big_quiet_step (first|(go_at_call 77;exact ui _)))
       refine wpQuiet_nil ?_;rintro _ ⟨X,rfl⟩;go_wp2
       go_round
       case rel=>exact⟨k+1,by omega,hN.o.succ HX.o.1 HA.o,by go_num,hB.o.trans (X.2.mono hz.o)⟩
       case measure=>simp[intOf];omega
     .have HF:=hid pH;rw[zCE pH]at ui;go_wp2
      refine ae (by kernel_rfl) (by kernel_rfl) ?_;repeat(go_big_quiet_step (first|(go_at_call 77;exact ui _)))
      refine wpQuiet_nil ?_;rintro _ ⟨X,rfl⟩;go_wp2
      go_ret
      exact bg.mk (r:=3) (il wh.o HN.o λh=>by
       obtain⟨P',YH,hm⟩:=(h k _ au HX.o.1).fits;simp only[zDY]at YH;rw[HX.o.2]at YH;cases YH;exact HF.o hm) ((Below.boxed hB.o).trans (X.2.mono (zAM (zCU _) hz.o)))
    .go_wp2
     go_ret;have e:k=l.length:=by omega
     subst e;exact bg.mk (r:=0) (nS ⟨wh.o,HN.o,hN.o⟩) (Below.boxed hB.o)
def sA (w:nq) (v vl:fu) (b:aj) (l:List Int) (hb:az w v b) (hl:ah w vl l) (hp:1<=b.ptz.length/\b.ptz.length<=5):
 Calls ZP 107 #[v,vl] w (bg w λs=>s=cH b l):=
 ru w v vl b l hb hl
end Go.Proofs.Cz
namespace Go.Proofs.Cz
open Go.RowKit
structure uI (b:aj) (t:iC):Prop where
 Xi:mw b t.ptz
 zgD:0<=t.lo/\t.lo<=t.hi/\t.hi<=99
def Dz (b:aj) (k:Nat):Prop:=∀j t,j<k->b.cR[j]?=some t->uI b t
structure Valid (b:aj):Prop where
 aB:1<=b.aB/\b.aB<=99
 aq:1<=b.aq/\b.aq<=4
 ptz:AD b
 nH:mv b
 many:b.cR.length<=4
 cR:Dz b b.cR.length
end Go.Proofs.Cz
namespace Go.RowKit
def Below.rx {w w1:nq} {o:Obj} (h:Below (w.alloc o).heap.size (w.alloc o) w1):Below (w.heap.size+1) (w.alloc o) w1:=by simpa using h
end Go.RowKit
namespace Go.Proofs.Cz
open Go.RowKit
end Go.Proofs.Cz
namespace Go.RowKit
def Below.ry {w w1 w2:nq} {o:Obj} (h:Below (w.alloc o).heap.size (w.alloc o) w1) (k:Below w1.heap.size w1 w2):Below (w.heap.size+1) (w.alloc o) w2:=Below.rx (h.trans (k.mono h.size))
end Go.RowKit
namespace Go.Proofs.Cz
open Go.RowKit
variable {b:aj} {t:iC}
open Classical in
def dr (n:Int) (l:List (Int×Int)) (k:Nat):Int:=match l[k]? with
 |none=>0
 |some x=>if(0<=x.1/\x.1<=n-1)/\0<=x.2/\x.2<=n-1 then(if x.1<=x.2 then(if∃i,i<k/\l[i]?=some x then 5 else 0)else 7)else 6
def bT (n:Int) (l:List (Int×Int)):Int:=if l.length<=5 then scan (dr n l) l.length else 2
section
variable {n:Int} {l:List (Int × Int)} {k:Nat} {x:Int × Int}
def AH (hx:l[k]?=some x) (h:¬((0<=x.1/\x.1<=n-1)/\0<=x.2/\x.2<=n-1)):dr n l k=6:=by unfold dr;rw[hx];simp only;rw[zAG h]
def Ob (hx:l[k]?=some x) (h:(0<=x.1/\x.1<=n-1)/\0<=x.2/\x.2<=n-1) (h2:¬x.1<=x.2):dr n l k=7:=by unfold dr;rw[hx];simp only;rw[zAE h,zAG h2]
def Oc (hx:l[k]?=some x) (h:wg n x) {i:Nat} (hi:i<k) (hy:l[i]?=some x):dr n l k=5:=by unfold dr;rw[hx];simp only;rw[zAE ⟨h.one,h.two⟩,zAE h.le,zAE ⟨i,hi,hy⟩]
def Gu (hx:l[k]?=some x) (h:wg n x) (h2:jl l x k):dr n l k=0:=by unfold dr;rw[hx];simp only;rw[zAE ⟨h.one,h.two⟩,zAE h.le,zAG (λ⟨i,hi,hy⟩=>h2 i x hi hy rfl)]
def wj (hm:l.length<=5):bT n l=scan (dr n l) l.length:=by unfold bT;rw[zAE hm]
def jW:bT b.ptz.length b.cj=0↔mv b:=by
 unfold bT;constructor
 .intro h;split at h
  .rename_i hm;refine⟨hm,λj x hj hx=>?_⟩;have h1:=fN.1 h j hj;unfold dr at h1;rw[hx]at h1;simp only at h1;split at h1
   .rename_i h2;split at h1
    .rename_i h3;split at h1
     .cases h1
     .rename_i h4;exact⟨⟨h2.1,h2.2,h3⟩,λi y hi hy e=>h4 ⟨i,hi,by rw[<-e];exact hy⟩⟩
    .cases h1
   .cases h1
  .cases h
 .intro h;rw[zAE h.many,fN];intro j hj;have hx:b.cj[j]?=some b.cj[j]:=zAI hj;have h1:=h.all j _ hj hx;exact Gu hx h1.1 h1.2
end
def gI:bB b.aq b.ptz=0↔AD b:=by
 unfold bB;constructor
 .intro h;split at h
  .rename_i hm;refine⟨hm,λj x hj hx=>?_⟩;have h1:=fN.1 h j hj;unfold cU at h1;rw[hx]at h1;simp only at h1;split at h1
   .rename_i h2;split at h1
    .cases h1
    .rename_i h3;split at h1
     .rename_i h4;exact⟨⟨h2,h4.1,h4.2.1,h4.2.2.1,h4.2.2.2,tq.1 h1⟩,λi y hi hy e=>h3 ⟨i,y,hi,hy,e⟩⟩
     .cases h1
   .cases h1
  .cases h
 .intro h;rw[zAE h.many,fN];intro j hj;have hx:b.ptz[j]?=some b.ptz[j]:=zAI hj;have h1:=h.all j _ hj hx;rw[AE hx h1.1.name h1.2 ⟨h1.1.cost,h1.1.d8,h1.1.time,h1.1.wide⟩];exact tq.2 h1.1.zgB
def df (b:aj) (k:Nat):Int:=match b.cR[k]? with
 |none=>0
 |some t=>if cH b t.ptz=0 then(if 0<=t.lo/\t.lo<=t.hi/\t.hi<=99 then 0 else 1)else cH b t.ptz
def dt (b:aj):Int:=if b.cR.length<=4 then scan (df b) b.cR.length else 2
def AI {k:Nat} (hx:b.cR[k]?=some t) (h:uI b t):df b k=0:=by unfold df;rw[hx];simp only;rw[zAE (eU.2 h.Xi),zAE h.zgD]
def IX {k:Nat} (hx:b.cR[k]?=some t) (h:mw b t.ptz) (h2:¬(0<=t.lo/\t.lo<=t.hi/\t.hi<=99)):df b k=1:=by unfold df;rw[hx];simp only;rw[zAE (eU.2 h),zAG h2]
def IY {k:Nat} (hx:b.cR[k]?=some t) (h:cH b t.ptz≠0):df b k=cH b t.ptz:=by unfold df;rw[hx];simp only;rw[zAG h]
def tw (hm:b.cR.length<=4):dt b=scan (df b) b.cR.length:=by unfold dt;rw[zAE hm]
def tx:dt b=0↔b.cR.length<=4/\Dz b b.cR.length:=by
 unfold dt;constructor
 .intro h;split at h
  .rename_i hm;refine⟨hm,λj t hj ht=>?_⟩;have h1:=fN.1 h j hj;unfold df at h1;rw[ht]at h1;simp only at h1;split at h1
   .rename_i h2;split at h1
    .rename_i h3;exact⟨eU.1 h2,h3⟩
    .cases h1
   .rename_i h2;exact absurd h1 h2
  .cases h
 .rintro⟨hm,h⟩;rw[zAE hm,fN];intro j hj;have hx:b.cR[j]?=some b.cR[j]:=zAI hj;exact AI hx (h j _ hj hx)
def bE (b:aj):Int:=
 if(1<=b.aB/\b.aB<=99)/\1<=b.aq/\b.aq<=4 then
  (if bB b.aq b.ptz=0 then(if bT b.ptz.length b.cj=0 then dt b else bT b.ptz.length b.cj)else bB b.aq b.ptz)
 else 1
def dN:bE b=0↔Valid b:=by
 unfold bE;constructor
 .intro h;split at h
  .rename_i h1;split at h
   .rename_i h2;split at h
    .rename_i h3;have h4:=tx.1 h;exact⟨h1.1,h1.2,gI.1 h2,jW.1 h3,h4.1,h4.2⟩
    .rename_i h3;exact absurd h h3
   .rename_i h2;exact absurd h h2
  .cases h
 .intro h;rw[zAE ⟨h.aB,h.aq⟩,zAE (gI.2 h.ptz),zAE (jW.2 h.nH),tx];exact⟨h.many,h.cR⟩
def uj (w:nq) (v:fu) (b:aj) (hb:az w v b) (hp:1<=b.ptz.length/\b.ptz.length<=5):
 Calls ZP 106 #[v] w (bg w λs=>s=bT b.ptz.length b.cj):=by
 obtain⟨v2,v3,v4,rfl,⟨a2,c2,h2,f2⟩,⟨a3,c3,h3,f3⟩,h4⟩:=hb;have H3:Hid (bi w v3 b.cj.length a3 c3/\_):=⟨h3,f3⟩
 obtain⟨rfl,l2,m2,n2,r2⟩:=h2;obtain⟨rfl,l3,m3,n3,r3⟩:=h3;unfold maxLen at m2 m3;clear r2 f2 n2 r3 f3 n3 h4;have lL:wrap64 ((b.ptz.length:Int)-1)=b.ptz.length-1:=by unfold wrap64;omega
 go_enter ZF106,Tryz.ntmps106
 go_wp2
 .rename_i hm;go_ret;exact bg.mk (r:=2) (by unfold bT;rw[zAG (by omega)]) ((Below.refl _ _).alloc (zAA _) _)
 rename_i hm;have pw:Hid (bT b.ptz.length b.cj=scan (dr b.ptz.length b.cj) b.cj.length):=wj (by omega);go_loopw [3] (λi w1=>∃k:Nat,k<=b.cj.length/\Hid (scan (dr b.ptz.length b.cj) k=0)/\i=.int .i64 k/\Hid (Below (w.heap.size+1) (w.alloc (.cells #[.int .i64 b.aB,.int .i64 b.aq,.slice a2 b.ptz.length c2,.slice a3 b.cj.length c3,v4] 26)) w1)) (λi _=>b.cj.length-(intOf i).toNat)
 case atStart=>exact⟨0,zAJ _,rfl,rfl,Below.refl _ _⟩
 case round=>
  obtain⟨k,hk,hN,rfl,hB⟩:=hrel;have g2:=boxed hB.o 2;have g3:=boxed hB.o 3;simp only[zCC,zBI,zBB]at g2 g3;by_cases au:k<b.cj.length
  .obtain⟨⟨blk,off,sp⟩,⟨xa,xb⟩,rfl,hx,x0,x1⟩:=H3.o.1.elem H3.o.2 au;obtain rfl:sp=none:=x0.1;have HX:=hid hx;have y0:=(x0.later (Kp.boxed hB.o)).2;have y1:=(x1.later (Kp.boxed hB.o)).2;simp only[<-zBD]at y0 y1;have kd:w.heap.size+1<=wr.heap.size:=by have:=hB.o.size;simp at this;omega
   have lO:=x0.lt;have ZZ:∀o,(wr.alloc o).cell? ⟨w.heap.size,2,none⟩=some (.slice a2 b.ptz.length c2):=λo=>(fM (by show w.heap.size<_;omega) o).trans g2;have g3':∀o,(wr.alloc o).cell? ⟨w.heap.size,3,none⟩=some (.slice (some ⟨blk,off,none⟩) b.cj.length c3):=λo=>(fM (by show w.heap.size<_;omega) o).trans g3;clear x0 x1 hx;go_wp2_with(go_at_call 12;refine(RK _ _ _ _).mono ?_;rintro e w' ⟨r,rfl,hr,rfl⟩;cases r)
   .go_ret;exact bg.mk (r:=6) (pw.o.trans (aO hN.o (AH HX.o λh=>hr.f h.1) (by decide) au)).symm (Below.one (Below.boxed hB.o) (by omega) _ 0)
   .go_ret;exact bg.mk (r:=6) (pw.o.trans (aO hN.o (AH HX.o λh=>hr.f h.2) (by decide) au)).symm (Below.one (Below.boxed hB.o) (by omega) _ 0)
   .rename_i BE;go_ret;rename_i uz;exact bg.mk (r:=7) (pw.o.trans (aO hN.o (Ob HX.o ⟨Tr.t (by assumption),hr.t⟩ (by simp only;omega)) (by decide) au)).symm (Below.one (Below.boxed hB.o) (by omega) _ 0)
   rename_i uz hle;have HK:Hid (wg b.ptz.length (xa,xb)):=⟨uz.t,hr.t,hle⟩
   have HL:=hid au;clear hr uz hle;go_loopw [5] (λi w2=>∃m:Nat,m<=k/\Hid (jl b.cj (xa,xb) m)/\i=.int .i64 m/\∃n,w2=(wr.alloc (.cells #[.int .i64 xa,.int .i64 xb] 53)).drewN n) (λi _=>k-(intOf i).toNat)
   case atStart=>exact⟨0,zAJ _,.zero _ _,rfl,0,rfl⟩
   case round=>
    obtain⟨m,hm2,hM,rfl,n0,rfl⟩:=hrel;by_cases jb:m<k
    .obtain⟨b',⟨ya,yb⟩,AF,hy,z0,z1⟩:=H3.o.1.elem H3.o.2 (show m<b.cj.length by have:=HL.o;omega);cases AF;have q0:=((z0.later (Kp.boxed hB.o)).later (Kp.alloc wr (.cells #[.int .i64 xa,.int .i64 xb] 53))).2;have q1:=((z1.later (Kp.boxed hB.o)).later (Kp.alloc wr (.cells #[.int .i64 xa,.int .i64 xb] 53))).2;simp only[<-zBD]at q0 q1;have HY:=hid hy;have zbu:(m:Int)<(k:Int):=by omega
     have BU:(m:Int)<(b.cj.length:Int):=by omega
     clear hy z0 z1;have hB1:=Below.one (Below.boxed hB.o) (by omega) (.cells #[.int .i64 xa,.int .i64 xb] 53);have cO:=hid hB1;clear hB1;by_cases e1:ya=xa
     .by_cases e2:yb=xb
      .subst e1 e2;go_wp2
       go_quiet (fail)
       go_wp2
       go_ret;exact bg.mk (r:=5) (pw.o.trans (aO hN.o (Oc HX.o HK.o jb HY.o) (by decide) HL.o)).symm (Below.drewN (cO.o _) _)
      .subst e1;have bu:Hid ((ya,yb)≠(ya,xb)):=(λh=>e2 (by cases h;rfl):(ya,yb)≠(ya,xb))
       go_wp2
       go_quiet (fail)
       go_wp2
       go_round
       case rel=>exact⟨m+1,by omega,hM.o.succ HY.o bu.o,by go_num,_,rfl⟩
       case measure=>simp[intOf];omega
     .have bu:Hid ((ya,yb)≠(xa,xb)):=(λh=>e1 (by cases h;rfl):(ya,yb)≠(xa,xb))
      go_wp2
      go_quiet (fail)
      go_wp2
      go_round
      case rel=>exact⟨m+1,by omega,hM.o.succ HY.o bu.o,by go_num,_,rfl⟩
      case measure=>simp[intOf];omega
    .have HM:Hid (jl b.cj (xa,xb) k):=(by have e:m=k:=(by omega);subst e;exact hM.o)
     go_wp2
     go_round
     case rel=>exact⟨k+1,by omega,ij hN.o (Gu HX.o HK.o HM.o),by go_num,Below.one hB.o (by omega) _ _⟩
     case measure=>simp[intOf];omega
  .go_wp2
   go_ret;have e:k=b.cj.length:=by omega
   subst e;exact bg.mk (r:=0) (pw.o.trans hN.o).symm (Below.boxed hB.o)
def xQ (w:nq) (v:fu) (b:aj) (hb:az w v b) (hs:gU b):
 Calls ZP 43 #[v] w (bg w λs=>s=bE b):=by
 have HB:=hid hb;obtain⟨v2,v3,v4,rfl,⟨a2,c2,⟨rfl,_,_,_,_⟩,_⟩,⟨a3,c3,⟨rfl,_,_,_,_⟩,_⟩,⟨a4,c4,h4,f4⟩⟩:=hb;have H4:Hid (bi w v4 b.cR.length a4 c4/\_):=⟨h4,f4⟩
 obtain⟨rfl,l4,m4,n4,r4⟩:=h4;unfold maxLen at m4;clear r4 f4 n4;go_enter ZF43,Tryz.ntmps43
 have cO:=HB.o.later (Kp.alloc w (.cells (bx b a2 c2 a3 c3 a4 c4) 26))
 go_wp2_with(first
  |(go_at_call 12;refine(RK _ _ _ _).mono ?_;rintro e w' ⟨r,rfl,hr,rfl⟩;cases r)
  |(go_at_call 105;refine(ug _ _ _ cO hs hr.t).mono ?_;rintro e w1 ⟨⟨r,rfl,hr4⟩,yZ⟩;have YI:Hid (r=bB b.aq b.ptz):=hr4;clear hr4;by_cases YJ:r=0;obtain⟨g0,g1,g2,g3,g4⟩:=uh.of yZ.rx)
  |(go_at_call 106;refine(uj _ _ _ (HB.o.later (Kp.boxed yZ.rx)) (gI.1 (YI.o.symm.trans YJ)).many).mono ?_;rintro e w2 ⟨⟨r2,rfl,WV⟩,qd⟩;have HR5:Hid (r2=bT b.ptz.length b.cj):=WV;clear WV;by_cases h85:r2=0;obtain⟨q0,q1,q2,q3,q4⟩:=uh.of (yZ.ry qd)))
 .go_ret;exact bg.mk (r:=1) (by unfold bE;rw[zAG λh=>hr.f h.1]) ((Below.refl _ _).alloc (zAA _) _)
 .go_ret;exact bg.mk (r:=1) (by unfold bE;rw[zAG λh=>hr.f h.2]) ((Below.refl _ _).alloc (zAA _) _)
 .rename_i Yx;go_ret;exact bg.mk (r:=2) (by unfold bE dt;rw[zAE ⟨Tr.t (by assumption),hr.t⟩,zAE (YI.o.symm.trans YJ),zAE (HR5.o.symm.trans h85),zAG (by omega)]) (Below.boxed (yZ.ry qd))
 .have HV:Hid ((1<=b.aB/\b.aB<=99)/\(1<=b.aq/\b.aq<=4)/\AD b/\mv b/\b.cR.length<=4):=by
   exact⟨Tr.t (by assumption),hr.t,gI.1 (YI.o.symm.trans YJ),jW.1 (HR5.o.symm.trans h85),by omega⟩
  have Ua:bE b=scan (df b) b.cR.length:=by
   unfold bE;rw[zAE ⟨HV.o.1,HV.o.2.1⟩,zAE (gI.2 HV.o.2.2.1),zAE (jW.2 HV.o.2.2.2.1),tw HV.o.2.2.2.2]
  have HBO:=hid Ua;clear Ua;have Xj:=hid (yZ.ry qd);clear hr yZ qd YJ h85 q0 q1 q2 q3 q4 g0 g1 g2 g3 g4;go_loopw [5] (λi w1=>∃k:Nat,k<=b.cR.length/\Hid (scan (df b) k=0)/\i=.int .i64 k/\Hid (Below (w.heap.size+1) (w.alloc (.cells (bx b a2 c2 a3 c3 a4 c4) 26)) w1)) (λi _=>b.cR.length-(intOf i).toNat)
  case atStart=>exact⟨0,zAJ _,rfl,rfl,Xj⟩
  case round=>
   obtain⟨k,hk,hN,rfl,hB⟩:=hrel;have gg:=uh.of hB.o;by_cases au:k<b.cR.length
   .obtain⟨⟨blk,off,sp⟩,t,rfl,hx,⟨vf,x0,hf⟩,x1,x2⟩:=H4.o.1.elem H4.o.2 au;obtain rfl:sp=none:=x0.1;have Ig:=hf;obtain⟨af,cf,⟨rfl,_,_,_,_⟩,_⟩:=hf;have HX:=hid hx;obtain⟨s0,s1,s2,s3,s4⟩:=gg;have G0:=λX:ak wr=>X.cell s0;have G1:=λX:ak wr=>X.cell s1;have G2:=λX:ak wr=>X.cell s2;have G3:=λX:ak wr=>X.cell s3;have G4:=λX:ak wr=>X.cell s4;have Y0:=λX:ak wr=>X.cell (x0.later (Kp.boxed hB.o)).2;have Y1:=λX:ak wr=>X.cell (x1.later (Kp.boxed hB.o)).2;have Y2:=λX:ak wr=>X.cell (x2.later (Kp.boxed hB.o)).2;simp only[<-zBD]at Y0 Y1 Y2;have kE:(k:Int)<(b.cR.length:Int):=by omega
    have hz:Hid (w.heap.size+1<=wr.heap.size):=by have:=hB.o.size;simp at this;exact(by omega:w.heap.size+1<=wr.heap.size)
    have Ui:∀X:ak wr,Calls ZP 107 #[.agg #[.int .i64 b.aB,.int .i64 b.aq,.slice a2 b.ptz.length c2,.slice a3 b.cj.length c3,.slice (some ⟨blk,off,none⟩) b.cR.length c4],.slice af t.ptz.length cf] X.1 (λe iL=>e=.returned (.int .i64 (cH b t.ptz))/\∃Y:ak wr,iL=Y.1):=λX=>
     (sA _ _ _ _ _ ((HB.o.later (Kp.boxed hB.o)).later X.kp) ((Ig.later (Kp.boxed hB.o)).later X.kp) HV.o.2.2.1.many).mono λe w' ⟨⟨r,h1,h2⟩,h3⟩=>⟨by rw[h1,h2],X.on h3⟩
    clear Ig x0 x1 x2 hx;by_cases Uj:cH b t.ptz=0
    .have HM:=hid (eU.1 Uj);go_wp2
     refine ae (by kernel_rfl) (by kernel_rfl) ?_;repeat(go_big_quiet_step (first|(go_at_call 107;exact Ui _)))
     refine wpQuiet_nil ?_;rintro _ ⟨X,rfl⟩;go_wp2_with(go_at_call 102;refine(vZ _ _ _ _ _).mono ?_;rintro e w' ⟨r,rfl,hr,rfl⟩;cases r)
     .go_ret;exact bg.mk (r:=1) (HBO.o.trans (aO hN.o (IX HX.o HM.o hr.f) (by decide) au)).symm (Below.alloc ((Below.boxed hB.o).trans (X.2.mono (zAM (zCU _) hz.o))) (zAM (zAM (zCU _) hz.o) X.2.size) _)
     .have HT:Hid (uI b t):=⟨HM.o,hr.t⟩
      clear hr;go_round
      case rel=>exact⟨k+1,by omega,ij hN.o (AI HX.o HT.o),by go_num,Below.alloc (hB.o.trans (X.2.mono hz.o)) (zAM hz.o X.2.size) _⟩
      case measure=>simp[intOf];omega
    .have HM:Hid (¬mw b t.ptz):=λh=>Uj (eU.2 h);go_wp2
     refine ae (by kernel_rfl) (by kernel_rfl) ?_;repeat(go_big_quiet_step (first|(go_at_call 107;exact Ui _)))
     refine wpQuiet_nil ?_;rintro _ ⟨X,rfl⟩;go_wp2
     go_ret;exact bg.mk (HBO.o.trans (aO hN.o (IY HX.o Uj) Uj au)).symm ((Below.boxed hB.o).trans (X.2.mono (zAM (zCU _) hz.o)))
   .have ek:k=b.cR.length:=by omega
    subst ek;have HN:=hid hN;obtain⟨s0,s1,s2,s3,s4⟩:=gg;go_wp2
    go_ret;exact bg.mk (r:=0) (HBO.o.trans HN.o).symm (Below.boxed hB.o)
 .go_ret;exact bg.mk (by unfold bE;rw[zAE ⟨Tr.t (by assumption),hr.t⟩,zAE (YI.o.symm.trans YJ),zAG (by rw[<-HR5.o];exact h85)];exact HR5.o) (Below.boxed (yZ.ry qd))
 .go_ret;exact bg.mk (by unfold bE;rw[zAE ⟨Tr.t (by assumption),hr.t⟩,zAG (by rw[<-YI.o];exact YJ)];exact YI.o) (Below.boxed yZ.rx)
end Go.Proofs.Cz
end
