/- A part. Conditions: none. -/
import Derived.Test.YtddlcmejelobdaaGreatDoorT34
import Derived.Maps.OwnOps
import Derived.Maps.OwnSet
import Derived.DeepKeys4
import Derived.Test.YtddlcmejelobdaaGreatDoorT43
set_option linter.all false
set_option maxHeartbeats 8000000
set_option maxRecDepth 100000
namespace Go.Proofs.Cz
open Go.RowKit Go.Maps
def G7:ZP.underlying 87=some (.map 91 3):=(Tz.under 87).trans Tryz.underlying87
def rJ:ZP.underlying 91=some (.struct #[{name:= "many",type:=89,offset:=0,embedded:=false,tag:= "",pkgPath:= "nosale/build",byteOffset:=0}]):=(Tz.under 91).trans Tryz.underlying91
def SC:ZP.underlying 89=some (.array 5 3):=(Tz.under 89).trans Tryz.underlying89
def uP:ZP.underlying 3=some (.int .i64):=(Tz.under 3).trans Tryz.underlying3
def wP:91<ZP.types.size:=by
 have h:Nat.blt 91 ZP.types.size=true:=by kernel_rfl
 exact zBG h
def zci:laidOutB ZP=true:=by kernel_rfl
def zcj:ZP.keyTypeAt 3 91=true:=by kernel_rfl
def zck:(match ZP.underlying 91 with|some (.array _ _)|some (.struct _)=>true|_=>false)=true:=by rw[rJ]
def zhI:WideMaps.KeyLaw ZP 91:=deep_law_laid zci (by omega) wP zcj zck
def oe:Keyed ZP 91:=Keyed.of_law zhI
set_option maxRecDepth 4000 in
def Lm (s:Nat->Int) (h:∀i,i<5->0<=s i/\s i<=3):∃kl,keyOf ZP 91 (.agg (tick s))=some kl:=by
 have h1:ZP.keyType 91=true:=by kernel_rfl
 have h2:ZP.cellsOf 91=5:=by kernel_rfl
 have h3:ZP.cellsOf 89=5:=by kernel_rfl
 have h4:ZP.cellsOf 3=1:=by kernel_rfl
 obtain⟨n,hn⟩:∃n,ZP.types.size+1=n+3:=⟨ZP.types.size-2,by have:=wP;omega⟩
 have hw:∀i,i<5->(Lit.int .i64 (s i)).wf=true:=λi hi=>WalkArith.wf_i64 ⟨by have:=h i hi;omega,by have:=h i hi;omega⟩;unfold keyOf;rw[rJ,hn];simp only[h1,Value.formed,rJ,h2];have cB:(tick s).size=5:=rfl;have BB:(Value.agg (tick s)).cells.toList=[.int .i64 (s 0),.int .i64 (s 1),.int .i64 (s 2),.int .i64 (s 3),.int .i64 (s 4)]:=rfl;have WV:List.range 5=[0,1,2,3,4]:=rfl;rw[BB]
 have hk:ZP.keyLits (n+3) 91 [.int .i64 (s 0),.int .i64 (s 1),.int .i64 (s 2),.int .i64 (s 3),.int .i64 (s 4)]=some [.int .i64 (s 0),.int .i64 (s 1),.int .i64 (s 2),.int .i64 (s 3),.int .i64 (s 4)]:=by
  simp[Program.keyLits,rJ,SC,uP,h2,h3,h4,hw,WV]
 rw[hk,zAE (by simp[cB])];exact⟨_,rfl⟩
open Go.RowKit
variable {N:Nat} {S:List (Nat->Int)} {m s:Nat->Int} {α:Type}
def aA (s m:Nat->Int):Nat->Option (Nat->Int)
 |0=>some s
 |k+1=>match aA s m k with
  |none=>none
  |some r=>if r (m k).toNat-1<0 then none else some (upd r (m k).toNat (r (m k).toNat-1))
def fh (s:Nat->Int):Prop:=∀i,i<5->0<=s i/\s i<=3
def mD {s m:Nat->Int} (h:fh s):∀{k:Nat} {r:Nat->Int},aA s m k=some r->fh r
 |0,r,e=>by cases e;exact h
 |k+1,r,e=>by
  unfold aA at e;cases hw:aA s m k with
  |none=>rw[hw]at e;cases e
  |some q=>
   rw[hw]at e;simp only at e;split at e
   .cases e
   .cases e;have hq:=mD h hw;intro i hi;by_cases hx:i=(m k).toNat
    .subst hx;rw[cw];have:=hq _ hi;omega
    .rw[aC _ _ hx];exact hq i hi
def total (s:Nat->Int):Nat:=(s 0).toNat+(s 1).toNat+(s 2).toNat+(s 3).toNat+(s 4).toNat
def Ln {j:Nat} (hj:j<5) (h:0<=s j-1):total (upd s j (s j-1))+1=total s:=by
 unfold total;match j,hj with
 |0,_=>simp only[cw,aC _ _ (show 1≠0 by decide),aC _ _ (show 2≠0 by decide),aC _ _ (show 3≠0 by decide),aC _ _ (show 4≠0 by decide)];omega
 |1,_=>simp only[cw,aC _ _ (show 0≠1 by decide),aC _ _ (show 2≠1 by decide),aC _ _ (show 3≠1 by decide),aC _ _ (show 4≠1 by decide)];omega
 |2,_=>simp only[cw,aC _ _ (show 0≠2 by decide),aC _ _ (show 1≠2 by decide),aC _ _ (show 3≠2 by decide),aC _ _ (show 4≠2 by decide)];omega
 |3,_=>simp only[cw,aC _ _ (show 0≠3 by decide),aC _ _ (show 1≠3 by decide),aC _ _ (show 2≠3 by decide),aC _ _ (show 4≠3 by decide)];omega
 |4,_=>simp only[cw,aC _ _ (show 0≠4 by decide),aC _ _ (show 1≠4 by decide),aC _ _ (show 2≠4 by decide),aC _ _ (show 3≠4 by decide)];omega
def eP:∀{k:Nat} {r:Nat->Int},(∀i,i<k->0<=m i/\m i<5)->aA s m k=some r->total r+k=total s
 |0,r,_,e=>by cases e;rfl
 |k+1,r,hm,e=>by
  unfold aA at e;cases hw:aA s m k with
  |none=>rw[hw]at e;cases e
  |some q=>
   rw[hw]at e;simp only at e;split at e
   .cases e
   .rename_i hn;cases e;have h1:=eP (λi hi=>hm i (by omega)) hw;have h2:=hm k (by omega);have h3:=Ln (s:=q) (j:=(m k).toNat) (by omega) (by omega);omega
def og (N:Nat) (S:List (Nat->Int)):Nat->(Nat->Int)->Nat
 |0,_=>0
 |f+1,s=>S.foldl (λn m=>match aA s m N with|none=>n|some r=>max n (1+og N S f r)) 0
def fold_congr {f g:Nat->α->Nat}:∀{l:List α} {n:Nat},(∀n,∀x∈l,f n x=g n x)->l.foldl f n=l.foldl g n
 | [],_,_=>rfl
 |x::l,n,h=>by
  rw[zDL,zDL,h n x zBW];exact fold_congr λn y hy=>h n y (zAS _ hy)
def wQ (hN:1<=N) (hS:∀m∈S,∀i,i<N->0<=m i/\m i<5):∀(f g:Nat) (s:Nat->Int),total s<f->total s<g->og N S f s=og N S g s
 |0,_,s,h,_=>by omega
 |_+1,0,s,_,h=>by omega
 |f+1,g+1,s,hf,hg=>by
  unfold og;refine fold_congr λn m hm=>?_;cases hw:aA s m N with
  |none=>rfl
  |some r=>
   have ht:=eP (hS m hm) hw;simp only;rw[wQ hN hS f g r (by omega) (by omega)]
def aY (N:Nat) (S:List (Nat->Int)) (s:Nat->Int):Nat:=og N S (total s+1) s
def dS (N:Nat) (S:List (Nat->Int)) (s:Nat->Int) (n:Nat) (m:Nat->Int):Nat:=match aA s m N with|none=>n|some r=>max n (1+aY N S r)
def iN (N:Nat) (S:List (Nat->Int)) (s:Nat->Int) (k:Nat):Nat:=(S.take k).foldl (dS N S s) 0
def Em (N:Nat) (S:List (Nat->Int)) (s:Nat->Int):iN N S s 0=0:=rfl
def tI {k:Nat} (h:S[k]?=some m):iN N S s (k+1)=dS N S s (iN N S s k) m:=by
 unfold iN;rw[zAX,h,Option.toList_some,zFS];rfl
def wR (hN:1<=N) (hS:∀m∈S,∀i,i<N->0<=m i/\m i<5) (s:Nat->Int):iN N S s S.length=aY N S s:=by
 unfold iN aY og;rw[zBN];refine fold_congr λn m hm=>?_;unfold dS;cases hw:aA s m N with
 |none=>rfl
 |some r=>
  have ht:=eP (hS m hm) hw;simp only;unfold aY;rw[wQ hN hS (total r+1) (total s) r (by omega) (by omega)]
def uQ {f:Nat->α->Nat} {c:Nat}:∀{l:List α} {n:Nat},n<=c->(∀n,n<=c->∀x∈l,f n x<=c)->l.foldl f n<=c
 | [],_,h,_=>h
 |x::l,n,h,g=>by
  rw[zDL];exact uQ (g n h x zBW) λn hn y hy=>g n hn y (zAS _ hy)
def oh (hN:1<=N) (hS:∀m∈S,∀i,i<N->0<=m i/\m i<5):∀(f:Nat) (s:Nat->Int),og N S f s<=total s
 |0,_=>zAJ _
 |f+1,s=>by
  unfold og;refine uQ (zAJ _) λn hn m hm=>?_;cases hw:aA s m N with
  |none=>exact hn
  |some r=>
   have ht:=eP (hS m hm) hw;have h2:=oh hN hS f r;simp only;omega
def kK {fn:Func} {p u:Tmp} {ty:a00} (h:fn.results=#[.cell p ty,.tmp u]) (tmps:Array fu) (P:un) (w:nq):
 (results fn tmps).run P w=
   ((asAddr (tmps.getD p undef)).run P w).andThen λa w₁=>((loadVar ty a).run P w₁).andThen λv w₂=>.ok (.tuple #[v,tmps.getD u undef]) w₂:=by
 simp only[results,h];simp[Sem.run_bind,Result.andThen]
def En (w:nq) (v2 v3 v4:fu) (b:aj) (N:Nat) (hN:b.aq=N) (nU:N<=4) (s m:Nat->Int) (hs:fh s) (hm:∀i,i<N->0<=m i/\m i<5):
 Calls ZP 55 #[.agg #[.int .i64 b.aB,.int .i64 b.aq,v2,v3,v4],.agg (tick s),.agg (bZ m)] w
  (cg w (match aA s m N with|none=>.tuple #[.agg (tick λ_=>0),.bool false]|some r=>.tuple #[.agg (tick r),.bool true])):=by
 have HS:=hid hs;rw[hN];obtain⟨R,hR⟩:=ex1 ((match aA s m N with|none=>Value.tuple #[.agg (tick λ_=>0),.bool false]|some r=>.tuple #[.agg (tick r),.bool true]));have HRn:Hid (aA s m N=none->.tuple #[.agg (tick λ_=>0),.bool false]=R):=λh=>by rw[<-hR,h]
 have HRs:Hid (∀r,aA s m N=some r->.tuple #[.agg (tick r),.bool true]=R):=λr h=>by rw[<-hR,h]
 rw[hR];obtain⟨A1,aZ⟩:=ex1 (w.alloc (.cells #[.int .i64 b.aB,.int .i64 N,v2,v3,v4] 78));obtain⟨A2,cL⟩:=ex1 (A1.alloc (.cells (tick s) 91));obtain⟨A3,jr⟩:=ex1 (A2.alloc (.cells (bZ m) 94));obtain⟨A4,xV⟩:=ex1 (A3.alloc (.cells #[.int .i64 0,.int .i64 0,.int .i64 0,.int .i64 0,.int .i64 0] 91));have gE:=snew aZ;have ng:=snew2 cL gE;have If:=snew2 jr ng
 have B1:Hid (aL A4 w.heap.size 78 #[.int .i64 b.aB,.int .i64 N,v2,v3,v4]):=by
  rw[<-xV];refine(ab.alloc [] _ _).box ?_ (by simp<;>omega);rw[<-jr];refine(ab.alloc [] _ _).box ?_ (by simp<;>omega);rw[<-cL];refine(ab.alloc [] _ _).box ?_ (by simp<;>omega);rw[<-aZ];exact aL.new _ _ _
 have B2:Hid (aL A4 (w.heap.size+1) 91 (tick s)):=by
  rw[<-xV];refine(ab.alloc [] _ _).box ?_ (by simp<;>omega);rw[<-jr];refine(ab.alloc [] _ _).box ?_ (by simp<;>omega);rw[<-cL,<-gE];exact aL.new _ _ _
 have B3:Hid (aL A4 (w.heap.size+1+1) 94 (bZ m)):=by
  rw[<-xV];refine(ab.alloc [] _ _).box ?_ (by simp<;>omega);rw[<-jr,<-ng];exact aL.new _ _ _
 have B4:=bnew2 xV If;have HW:Hid (Below w.heap.size w A4):=by rw[<-xV,<-jr,<-cL,<-aZ];exact((((ab.alloc [] _ _).fG _).fG _).fG _).below (by simp<;>omega) (zAA _)
 obtain⟨-,z1⟩:=B1.o.c2;simp only[bZ,tick]at cL jr⊢;go_enter ZF55,Tryz.ntmps55
 go_wp2
 go_loopw [12,8] (λi _ wr=>∃(k:Nat) (r:Nat->Int),k<=N/\i=.int .i64 k/\Hid (aA s m k=some r)/\Hid (ab [w.heap.size+1] A4 wr/\aL wr (w.heap.size+1) 91 (tick r))) (λi _ _=>N-(intOf i).toNat)
 case atStart=>exact⟨0,s,zAJ _,rfl,rfl,ab.refl _ _,B2.o⟩
 case round=>
  obtain⟨k,r,hk,rfl,hr,hK⟩:=hrel;have C1:=hK.o.1.box B1.o (by simp<;>omega);have C3:=hK.o.1.box B3.o (by simp<;>omega);have C4:=hK.o.1.box B4.o (by simp<;>omega);have rU:=hid (HW.o.trans (hK.o.1.below (by simp<;>omega) HW.o.size));have rh:=hid (mD HS.o hr.o);by_cases au:k<N
  .have qv:k<4:=by omega
   have Jc:(k:Int)<(N:Int):=by omega
   obtain⟨j,hj⟩:∃j:Nat,m k=(j:Int):=⟨(m k).toNat,by have:=(hm k au).1;omega⟩
   have PG:j<5:=by have:=(hm k au).2;omega
   have Zv:(j:Int)<5:=by omega
   have zoW:(k:Int)<4:=by omega
   have c2:wr.cell? ⟨w.heap.size+1+1,k,none⟩=some (.int .i64 j):=by rw[<-hj];exact C3.cell k (gt qv _)
   have c3:=hK.o.2.cell j (eh PG _);have f3:=hK.o.2.aH j;have hrj:=rh.o j PG;obtain⟨x,hx⟩:=ex1 (r j);have HX:=hid hx;rw[hx]at c3 hrj;have lL:wrap64 (x-1)=x-1:=by unfold wrap64;omega
   obtain⟨wn,UK⟩:=ex1 (wr.setCell ⟨w.heap.size+1,j,none⟩ (.int .i64 (x-1)))
   have Bn:Hid (aL wn (w.heap.size+1) 91 (tick (upd r j (x-1)))):=by
    have h:=hK.o.2.set j (.int .i64 (x-1));rwa [rA PG,UK]at h
   have Kn:Hid (ab [w.heap.size+1] wr wn):=by rw[<-UK];exact ab.set _ (by simp<;>omega) _
   have d2:wn.cell? ⟨w.heap.size+1+1,k,none⟩=some (.int .i64 j):=by rw[<-hj];exact(Kn.o.box C3 (by simp<;>omega)).cell k (gt qv _)
   have d3:wn.cell? ⟨w.heap.size+1,j,none⟩=some (.int .i64 (x-1)):=by have h:=Bn.o.cell j (eh PG _);rwa [cw]at h
   have E4:=Kn.o.box C4 (by simp<;>omega);have HWn:=hid (rU.o.trans (Kn.o.below (by simp<;>omega) rU.o.size))
   have Uv:Hid (x-1<0->aA s m N=none):=λzhK=>by
    have h1:aA s m (k+1)=none:=by
     rw[aA,hr.o];simp only;rw[hj,zDY,HX.o,zAE zhK]
    have h2:∀d,aA s m (k+1+d)=none:=λd=>by
     induction d with
     |zero=>exact h1
     |succ d ih=>rw[show k+1+(d+1)=(k+1+d)+1 by omega,aA,ih]
    have:=h2 (N-(k+1));rwa [show k+1+(N-(k+1))=N by omega]at this
   have oL:Hid (¬x-1<0->aA s m (k+1)=some (upd r j (x-1))):=λhn=>by
    rw[aA,hr.o];simp only;rw[hj,zDY,HX.o,zAG hn]
   have e0:=E4.c1;have f10:=E4.aH 0;have g0:=E4.same (i:=0) (v:=.int .i64 0) rfl;obtain⟨-,e1⟩:=E4.c2;have f11:=E4.aH 1;have g1:=E4.same (i:=1) (v:=.int .i64 0) rfl;obtain⟨-,-,e2⟩:=E4.c3;have f12:=E4.aH 2;have g2:=E4.same (i:=2) (v:=.int .i64 0) rfl;obtain⟨-,-,-,e3⟩:=E4.c4;have f13:=E4.aH 3;have g3:=E4.same (i:=3) (v:=.int .i64 0) rfl;obtain⟨-,-,-,-,e4⟩:=E4.c5;have f14:=E4.aH 4;have g4:=E4.same (i:=4) (v:=.int .i64 0) rfl;by_cases zcl:x-1<0
   .have HF:=hid (Uv.o zcl);go_wp2_with fail
    refine bodyPost_ret (v:=.tuple #[.agg (tick λ_=>0),.bool false]) ?_ rfl ⟨zBE Ending.returned (HRn.o HF.o),HWn.o⟩;rw[kK rfl];simp only[tick];go_simp
   .have HF:=hid (oL.o zcl);go_wp2_with fail
    refine⟨⟨k+1,_,by omega,by go_num,HF.o,hK.o.1.trans' Kn.o,Bn.o⟩,by simp[intOf];omega⟩
  .have e:k=N:=by omega
   subst e;have HF:=hid hr;have Br:=hK.o.2;have c0:=Br.c1;have f0:=C4.aH 0;have e0:=C4.c1;obtain⟨-,c1⟩:=Br.c2;have f1:=C4.aH 1;obtain⟨-,e1⟩:=C4.c2;obtain⟨-,-,c2⟩:=Br.c3;have f2:=C4.aH 2;obtain⟨-,-,e2⟩:=C4.c3;obtain⟨-,-,-,c3⟩:=Br.c4;have f3:=C4.aH 3;obtain⟨-,-,-,e3⟩:=C4.c4;obtain⟨-,-,-,-,c4⟩:=Br.c5;have f4:=C4.aH 4;obtain⟨-,-,-,-,e4⟩:=C4.c5;obtain⟨wn,UK⟩:=ex1 ((((((wr.setCell ⟨w.heap.size+1+1+1,0,none⟩ (.int .i64 (r 0))).setCell ⟨w.heap.size+1+1+1,1,none⟩ (.int .i64 (r 1))).setCell ⟨w.heap.size+1+1+1,2,none⟩ (.int .i64 (r 2))).setCell ⟨w.heap.size+1+1+1,3,none⟩ (.int .i64 (r 3))).setCell ⟨w.heap.size+1+1+1,4,none⟩ (.int .i64 (r 4))))
   have Bn:aL wn (w.heap.size+1+1+1) 91 (tick r):=by
    have h:=((((C4.set 0 (.int .i64 (r 0))).set 1 (.int .i64 (r 1))).set 2 (.int .i64 (r 2))).set 3 (.int .i64 (r 3))).set 4 (.int .i64 (r 4));rw[UK]at h;exact h
   have HWn:Hid (Below w.heap.size w wn):=by
    rw[<-UK];refine rU.o.trans (ab.below (O:=[w.heap.size+1+1+1]) ?_ (by simp<;>omega) rU.o.size);exact((((ab.set _ (by simp<;>omega) _).trans' (ab.set _ (by simp<;>omega) _)).trans' (ab.set _ (by simp<;>omega) _)).trans' (ab.set _ (by simp<;>omega) _)).trans' (ab.set _ (by simp<;>omega) _)
   obtain⟨d0,d1,d2,d3,d4⟩:=Bn.c5;obtain⟨-,z1⟩:=C1.c2;go_wp2_with fail
   refine bodyPost_ret (v:=.tuple #[.agg (tick r),.bool true]) ?_ rfl ⟨zBE Ending.returned (HRs.o r HF.o),HWn.o⟩;rw[kK rfl];simp only[tick];go_simp
end Go.Proofs.Cz
namespace Go.Proofs.Cz
open Go.RowKit Go.Maps
variable {D:DataW Unit} {M N:Nat} {S:List (Nat->Int)} {kl:Lit} {s t:Nat->Int} {w w':nq}
def oq (s t:Nat->Int):Prop:=∀i,i<5->s i=t i
def wS (h:tick s=tick t):oq s t:=λi hi=>by
 have h1:=eh hi s;rw[h,eh hi t]at h1;exact(by simpa using h1:t i=s i).symm
def oq.total (h:oq s t):total s=total t:=by
 unfold Cz.total;rw[h 0 (by omega),h 1 (by omega),h 2 (by omega),h 3 (by omega),h 4 (by omega)]
def oq.Je {m:Nat->Int} (h:oq s t):∀{k:Nat},(∀i,i<k->0<=m i/\m i<5)->(aA s m k=none/\aA t m k=none)\/∃r q,aA s m k=some r/\aA t m k=some q/\oq r q
 |0,_=>.inr ⟨s,t,rfl,rfl,h⟩
 |k+1,hm=>by
  have jb:=hm k (by omega);have hj:(m k).toNat<5:=by omega
  rcases h.Je (k:=k) (λi hi=>hm i (by omega))with⟨h1,h2⟩|⟨r,q,h1,h2,h3⟩
  .exact .inl ⟨by unfold aA;rw[h1],by unfold aA;rw[h2]⟩
  .unfold aA;rw[h1,h2];simp only;rw[<-h3 _ hj];split
   .exact .inl ⟨rfl,rfl⟩
   .refine .inr ⟨_,_,rfl,rfl,λi hi=>?_⟩;by_cases e:i=(m k).toNat
    .subst e;rw[cw,cw]
    .rw[aC _ _ e,aC _ _ e,h3 i hi]
def tJ (hS:∀m∈S,∀i,i<N->0<=m i/\m i<5):∀(f:Nat) {s t:Nat->Int},oq s t->og N S f s=og N S f t
 |0,_,_,_=>rfl
 |f+1,s,t,h=>by
  unfold og;refine fold_congr λn m hm=>?_;rcases h.Je (hS m hm)with⟨h1,h2⟩|⟨r,q,h1,h2,h3⟩
  .rw[h1,h2]
  .rw[h1,h2];simp only;rw[tJ hS f h3]
def Bo (hS:∀m∈S,∀i,i<N->0<=m i/\m i<5) (h:oq s t):aY N S s=aY N S t:=by
 unfold aY;rw[h.total,tJ hS _ h]
def jm (c:Nat):Nat->Int:=λi=>((c/4^i%4:Nat):Int)
def iz (s:Nat->Int):Nat:=(s 0).toNat+4*(s 1).toNat+16*(s 2).toNat+64*(s 3).toNat+256*(s 4).toNat
def SD (h:fh s):iz s<1024:=by
 have h0:=h 0 (by omega);have h1:=h 1 (by omega);have h2:=h 2 (by omega);have h3:=h 3 (by omega);have h4:=h 4 (by omega)
 unfold iz;omega
def zv (h:fh s):tick (jm (iz s))=tick s:=by
 have h0:=h 0 (by omega);have h1:=h 1 (by omega);have h2:=h 2 (by omega);have h3:=h 3 (by omega);have h4:=h 4 (by omega)
 have e0:jm (iz s) 0=s 0:=by unfold jm iz;simp only[Nat.pow_zero,Nat.div_one];omega
 have e1:jm (iz s) 1=s 1:=by unfold jm iz;rw[show(4:Nat)^1=4 from rfl];omega
 have e2:jm (iz s) 2=s 2:=by unfold jm iz;rw[show(4:Nat)^2=16 from rfl];omega
 have e3:jm (iz s) 3=s 3:=by unfold jm iz;rw[show(4:Nat)^3=64 from rfl];omega
 have e4:jm (iz s) 4=s 4:=by unfold jm iz;rw[show(4:Nat)^4=256 from rfl];omega
 unfold tick;rw[e0,e1,e2,e3,e4]
def SE (D:DataW Unit) (c:Nat):Prop:=∃kl,keyOf ZP 91 (.agg (tick (jm c)))=some kl/\Maps.has D kl=true
open Classical in
noncomputable def cnt (D:DataW Unit):Nat:=((List.range 1024).filter λc=>decide (SE D c)).length
def XL (D:DataW Unit):cnt D<=1024:=by
 unfold cnt;refine zAM (zDE _ _) ?_;rw[List.length_range];exact zAA _
def tK {α:Type} {p q:α->Bool} {a:α} (hp:p a=false) (hq:q a=true):∀{l:List α},(∀x∈l,p x=true->q x=true)->a∈l->(l.filter p).length+1<=(l.filter q).length
 | [],_,h=>by cases h
 |x::l,h,ha=>by
  have Ty:∀{l:List α},(∀x∈l,p x=true->q x=true)->(l.filter p).length<=(l.filter q).length:=λ{l} h=>by
   induction l with
   |nil=>exact zAA _
   |cons y l ih=>
    have h2:=ih λz hz=>h z (zAS _ hz);rw[zEB,zEB];by_cases hy:p y=true
    .rw[zAE hy,zAE (h y zBW hy)];simpa using h2
    .rw[zAG hy];split
     .simp;omega
     .exact h2
  have ht:=λz (hz:z∈l)=>h z (zAS _ hz);rw[zEB,zEB];rcases zAQ.1 ha with rfl|ha
  .rw[zAG (by rw[hp];exact λh=>by cases h),zAE hq];simpa using Ty ht
  .have h2:=tK hp hq ht ha;by_cases hx:p x=true
   .rw[zAE hx,zAE (h x zBW hx)];simpa using h2
   .rw[zAG hx];split
    .simp;omega
    .exact h2
open Classical in
def SF {d:DataW Unit} (hD:IsMap D) (hs:fh s) (hk:keyOf ZP 91 (.agg (tick s))=some kl) (hn:Maps.has D kl=false):cnt D+1<=cnt (D.put kl d):=by
 unfold cnt;refine tK (a:=iz s) (zCE ?_) (zCK ?_) (λc _ hc=>zCK ?_) (zDB.2 (SD hs))
 .rintro⟨Zf,h1,h2⟩;rw[zv hs,hk]at h1;cases h1;rw[hn]at h2;cases h2
 .exact⟨kl,by rw[zv hs];exact hk,has_put_same hD (oe.key hk) d⟩
 .obtain⟨Zf,h1,h2⟩:=zEZ hc;refine⟨Zf,h1,?_⟩;by_cases e:Zf=kl
  .subst e;exact has_put_same hD (oe.key hk) d
  .rw[has_put_other e];exact h2
structure bP (w:nq) (N:Nat) (S:List (Nat->Int)) (M:Nat) (D:DataW Unit):Prop where
 own:∃n,w.ownsMap ZP 91 (plainElem ZP 3) M n D/\n<=cnt D
 map:IsMap D
 XM:∀s,fh s->∀kl,keyOf ZP 91 (.agg (tick s))=some kl->Maps.has D kl=true->D.atKey kl (.lit (.int .i64 0))=.lit (.int .i64 (aY N S s:Nat))
def bP.made (w:nq) (N:Nat) (S:List (Nat->Int)):bP (w.alloc (.map #[] 0)) N S w.heap.size (.map []):=
 ⟨⟨0,World.ownsMap_made _ _ _ _,zAJ _⟩,⟨[],rfl⟩,λs _ kl _ h=>by cases h⟩
def bP.on (h:bP w N S M D) (hk:w'.heap[M]?=w.heap[M]?):bP w' N S M D:=by
 obtain⟨n,⟨es,clock,hb,F,hs,hD⟩,h2⟩:=h.own;exact⟨⟨n,⟨es,clock,hk.trans hb,F,hs,hD⟩,h2⟩,h.map,h.XM⟩
def bP.lt (h:bP w N S M D):M<w.heap.size:=by
 obtain⟨n,ho,_⟩:=h.own;exact ho.lt
def bP.put {n:Nat} (hS:∀m∈S,∀i,i<N->0<=m i/\m i<5) (h:bP w N S M D) (hn:n<=cnt D) (hs:fh s) (hk:keyOf ZP 91 (.agg (tick s))=some kl) (je:Maps.has D kl=false)
 (ho:w'.ownsMap ZP 91 (plainElem ZP 3) M (n+1) (D.put kl (.lit (.int .i64 (aY N S s:Nat))))):bP w' N S M (D.put kl (.lit (.int .i64 (aY N S s:Nat)))):=by
 refine⟨⟨n+1,ho,zAM (Nat.succ_le_succ hn) (SF h.map hs hk je)⟩,?_,λt ht Zf kE hh=>?_⟩
 .obtain⟨es,rfl⟩:=h.map;exact⟨_,rfl⟩
 .by_cases e:Zf=kl
  .subst e;rw[atKey_put_same h.map (oe.key hk)];have h1:=oe.inj kE hk;rw[Bo hS (wS (by simpa using h1.symm))]
  .rw[atKey_put_other e];rw[has_put_other e]at hh;exact h.XM t ht Zf kE hh
end Go.Proofs.Cz

set_option maxHeartbeats 8000000
set_option maxRecDepth 100000
namespace Go.Proofs.Cz
open Go.RowKit Go.Maps
variable {D D1:DataW Unit} {M T c ga gk gm gs:Nat} {S:List (Nat->Int)} {a:Option Addr} {b:aj} {v2 v3 v4 v5:fu} {w w':nq}
def OP (w:nq):(zeroValue 3).run ZP w=.ok (.int .i64 0) w:=(Tz.cQ 3 w).trans (Tryz.zeroValue3 w)
def nf (D D':DataW Unit) (T:Nat):Prop:=∀t kt,fh t->keyOf ZP 91 (.agg (tick t))=some kt->T<=total t->Maps.has D' kt=Maps.has D kt
def nf.refl (D:DataW Unit) (T:Nat):nf D D T:=λ_ _ _ _ _=>rfl
def nf.trans {D2:DataW Unit} (h:nf D D1 T) (k:nf D1 D2 T):nf D D2 T:=λt kt h1 h2 h3=>(k t kt h1 h2 h3).trans (h t kt h1 h2 h3)
def nf.mono {T':Nat} (h:nf D D1 T) (ht:T<=T'):nf D D1 T':=λt kt h1 h2 h3=>h t kt h1 h2 (by omega)
def nf.put {s:Nat->Int} {kl:Lit} {d:DataW Unit} (h:nf D D1 (total s)) (hk:keyOf ZP 91 (.agg (tick s))=some kl):nf D (D1.put kl d) (total s+1):=λt kt h1 h2 h3=>by
 have bu:kt≠kl:=λe=>by
  subst e;have h4:=oe.inj h2 hk;have h5:=(wS (s:=t) (t:=s) (by simpa using h4)).total;omega
 rw[has_put_other bu];exact h t kt h1 h2 (by omega)
structure gM (w:nq) (b:aj) (v2 v3 v4 v5:fu) (a:Option Addr) (c:Nat) (S:List (Nat->Int)) (gk ga gs gm M:Nat):Prop where
 fk:aL w gk 87 #[.map (some M)]
 fa:aL w ga 85 #[.slice a S.length c]
 fs:aL w gs 81 #[.int .i64 b.aB,.int .i64 b.aq,v2,v3,v4,v5]
 fm:aL w gm 88 #[.func (.func 54) #[] #[ptr gk,ptr ga,ptr gs,ptr gm]]
 fv:bX 4 w (.slice a S.length c) S
 ne:gk≠M/\ga≠M/\gs≠M/\gm≠M
 row:∀j,(Value.slice a S.length c).ownBlock=some j->j≠M\/c=0
def bX.on0 (h:bX 4 w (.slice a S.length c) S) (hr:∀j,(Value.slice a S.length c).ownBlock=some j->j≠M\/c=0) (hk:ab [M] w w'):bX 4 w' (.slice a S.length c) S:=by
 by_cases h0:c=0
 .subst h0;obtain⟨a',c',h1,_⟩:=h;have he:=h1.eq;simp only[Value.slice.injEq,zCS]at he;obtain⟨rfl,rfl⟩:=he;have hn:S=[]:=zBO (by have:=h1.le;omega);subst hn;exact⟨a,0,⟨rfl,h1.le,h1.IU,h1.nil,λb hb=>.inl rfl⟩,λb hb j t hj=>by cases hj⟩
 .exact h.on λj hj au=>hk.block j au (by simpa using(hr j hj).resolve_right h0)
def gM.on (h:gM w b v2 v3 v4 v5 a c S gk ga gs gm M) (hk:ab [M] w w'):gM w' b v2 v3 v4 v5 a c S gk ga gs gm M:=
 ⟨hk.box h.fk (by simpa using h.ne.1),hk.box h.fa (by simpa using h.ne.2.1),hk.box h.fs (by simpa using h.ne.2.2.1),hk.box h.fm (by simpa using h.ne.2.2.2),h.fv.on0 h.row hk,h.ne,h.row⟩
def gM.on2 {P:Nat} (h:gM w b v2 v3 v4 v5 a c S gk ga gs gm M) (hk:ab [P] w w') (hP:gk≠P/\ga≠P/\gs≠P/\gm≠P) (hr:∀j,(Value.slice a S.length c).ownBlock=some j->j≠P\/c=0):gM w' b v2 v3 v4 v5 a c S gk ga gs gm M:=
 ⟨hk.box h.fk (by simpa using hP.1),hk.box h.fa (by simpa using hP.2.1),hk.box h.fs (by simpa using hP.2.2.1),hk.box h.fm (by simpa using hP.2.2.2),h.fv.on0 hr hk,h.ne,h.row⟩
def OQ (b:aj) (N:Nat) (hN:b.aq=N) (nU:1<=N/\N<=4) (v2 v3 v4 v5:fu) (a:Option Addr) (c:Nat) (S:List (Nat->Int)) (hS:∀m∈S,∀i,i<N->0<=m i/\m i<5) (gk ga gs gm M:Nat):
 ∀(f:Nat) (w:nq) (s:Nat->Int) (D:DataW Unit),total s<f->fh s->gM w b v2 v3 v4 v5 a c S gk ga gs gm M->bP w N S M D->
  Calls ZP 54 #[.agg (tick s),ptr gk,ptr ga,ptr gs,ptr gm] w (λe w'=>(e=.returned (.int .i64 (aY N S s:Nat))/\∃D',bP w' N S M D'/\nf D D' (total s+1))/\ab [M] w w'):=by
 intro f;induction f with
 |zero=>intro w s D h;omega
 |succ f ih=>
  intro w s D hf hs hA hK;have HA:=hid hA;have HK:=hid hK;have HS:Hid (fh s):=hs;have xl:=hid hS;have HN:=hid hN;have HF:=hid hf
  have HIH:Hid (∀(w:nq) (s:Nat->Int) (D:DataW Unit),total s<f->fh s->gM w b v2 v3 v4 v5 a c S gk ga gs gm M->bP w N S M D->
   Calls ZP 54 #[.agg (tick s),ptr gk,ptr ga,ptr gs,ptr gm] w (λe w'=>(e=.returned (.int .i64 (aY N S s:Nat))/\∃D',bP w' N S M D'/\nf D D' (total s+1))/\ab [M] w w')):=ih
  obtain⟨kl,qu⟩:=Lm s hs;have zf:=hid qu;obtain⟨mo,kX⟩:∃mo:Nat,aY N S s=mo:=⟨_,rfl⟩
  have Ul:=hid kX
  have zkK:mo<=15:=by
   have h1:=oh nU.1 hS (total s+1) s;have h0:=hs 0 (by omega);have sR:=hs 1 (by omega);have h2:=hs 2 (by omega);have h3:=hs 3 (by omega);have h4:=hs 4 (by omega)
   have h5:total s<=15:=by unfold total;omega
   have h6:aY N S s<=total s:=h1;omega
  rw[kX];obtain⟨A1,aZ⟩:=ex1 (w.alloc (.cells (tick s) 91));have B1:Hid (aL A1 w.heap.size 91 (tick s)):=cF aZ;have KA:Hid (ab [M] w A1):=by rw[<-aZ];exact ab.alloc _ _ _
  have EQ:Hid (gM A1 b v2 v3 v4 v5 a c S gk ga gs gm M):=HA.o.on KA.o;have hMw:=HK.o.lt;have HMW:=hid hMw;have EZ:Hid (bP A1 N S M D):=HK.o.on (by rw[<-aZ];exact(ab.alloc [] w _).block M hMw (by simp));have hc5:(tick s).toList=[.int .i64 (s 0),.int .i64 (s 1),.int .i64 (s 2),.int .i64 (s 3),.int .i64 (s 4)]:=rfl;obtain⟨b0,b1,b2,b3,b4⟩:=B1.o.c5;have ck:=EQ.o.fk.cell 0 rfl;obtain⟨n,cq,TC⟩:=EZ.o.own;have Sg:=hid cq;have HNC:Hid (n<=cnt D):=TC;simp only[tick]at aZ qu⊢;clear hA hK hs hf ih kX cq TC hS hN hMw hc5;have C5:=EZ.o.XM s HS.o kl zf.o;cases hh:Maps.has D kl with
  |true=>
   have XN:=C5 hh;rw[Ul.o]at XN;have HAT:=hid XN;have HH:=hid hh;clear C5 XN;go_enter ZF54,Tryz.ntmps54
   go_wp2_with(at_lookup
               refine wpList_lookup_own_ok_int _ rfl _ _ 87 rfl 91 3 .i64 oe G7 uP (OP _) M n D rfl Sg.o _ _ rfl qu ?_;intro cv zZ hwc;rw[HAT.o]at zZ;obtain rfl:(mo:Int)=cv:=by simpa using zZ
               rw[hh];clear zZ hwc)
   go_ret;exact⟨⟨rfl,D,EZ.o,nf.refl _ _⟩,KA.o⟩
  |false=>
   have HH:=hid hh;have HAT:Hid (D.atKey kl (.lit (.int .i64 0))=(.lit (.int .i64 0):DataW Unit)):=atKey_of_not_has hh _;have ca:=EQ.o.fa.cell 0 rfl;clear C5;go_enter ZF54,Tryz.ntmps54
   go_wp2_with(at_lookup
               refine wpList_lookup_own_ok_int _ rfl _ _ 87 rfl 91 3 .i64 oe G7 uP (OP _) M n D rfl Sg.o _ _ rfl qu ?_;intro cv zZ hwc;rw[HAT.o]at zZ;obtain rfl:(0:Int)=cv:=by simpa using zZ
               rw[hh];clear zZ hwc)
   obtain⟨va,vc,pO,hve⟩:=EQ.o.fv;have hvq:=pO.eq;simp only[Value.slice.injEq,zCS]at hvq;obtain⟨rfl,rfl⟩:=hvq;have HVE:Hid (bi A1 (.slice a S.length c) S.length a c/\∀d,a=some d->∀(j:Nat) (t:Nat->Int),S[j]?=some t->∀r,r<4->At A1 d (j*4+r) (.int .i64 (t r))):=⟨pO,hve⟩
   have zo1:=pO.le;have zcn:=pO.IU;unfold maxLen at zcn;clear pO hve aZ;go_loopw [23,7] (λi u wr=>∃(k:Nat),k<=S.length/\i=.int .i64 k/\u=.int .i64 (iN N S s k:Nat)/\Hid (ab [M] A1 wr)/\∃D2,Hid (bP wr N S M D2/\nf D D2 (total s))) (λi _ _=>S.length-(intOf i).toNat)
   case atStart=>exact⟨0,zAJ _,rfl,by rw[Em];rfl,ab.refl _ _,D,EZ.o,nf.refl _ _⟩
   case round=>
    obtain⟨k,hk,rfl,rfl,rC,D2,SG⟩:=hrel;by_cases au:k<S.length
    .obtain⟨⟨blk,off,sp⟩,m,rfl,hx,q7⟩:=HVE.o.1.elem HVE.o.2 au;obtain rfl:sp=none:=(q7 0 (by omega)).1;have HX:=hid hx;have Jc:(k:Int)<(S.length:Int):=by omega
     have HAr:Hid (gM wr b v2 v3 v4 v5 (some ⟨blk,off,none⟩) c S gk ga gs gm M):=EQ.o.on rC.o;have G8:blk≠M:=(EQ.o.row blk rfl).resolve_right (by omega);have bm:∀r,r<4->wr.cell? ⟨blk,off+(k*4+r),none⟩=some (.int .i64 (m r)):=λr hr=>(rC.o.on (a:=⟨blk,off+(k*4+r),none⟩) ((q7 r hr).lt) (by simpa using G8)).trans (q7 r hr).2;have r0:=bm 0 (by omega);have r1:=bm 1 (by omega);have r2:=bm 2 (by omega);have r3:=bm 3 (by omega);simp only[zCH,<-zBD]at r0 r1 r2 r3;obtain⟨wt,uM⟩:=ex1 (wr.alloc (.cells (bZ m) 94));have BM:Hid (aL wt wr.heap.size 94 (bZ m)):=cF uM;have KT:Hid (ab [M] wr wt):=by rw[<-uM];exact ab.alloc _ _ _
     have KT0:=hid (knew uM);have HMR:Hid (M<wr.heap.size):=SG.o.1.lt;have HAt:Hid (gM wt b v2 v3 v4 v5 (some ⟨blk,off,none⟩) c S gk ga gs gm M):=HAr.o.on KT.o;have HBt:Hid (aL wt w.heap.size 91 (tick s)):=KT.o.box (rC.o.box B1.o (by simp;have:=HMW.o;omega)) (by simp;have:=HMW.o;omega);have s0:=HAt.o.fs.c1;have s1:wt.cell? ⟨gs,1,none⟩=some (.int .i64 (N:Int)):=by have h:=HAt.o.fs.cell 1 rfl;rw[HN.o]at h;exact h
     obtain⟨-,-,s2,s3,s4,s5⟩:=HAt.o.fs.c6;obtain⟨b0,b1,b2,b3,b4⟩:=HBt.o.c5;obtain⟨m0,m1,m2,m3⟩:=BM.o.c4;have hC:=En wt v2 v3 v4 b N HN.o nU.2 s m HS.o (xl.o m (zAT hx));rw[HN.o]at hC;simp only[tick,bZ]at hC uM;clear q7 bm hx;cases hwo:aA s m N with
     |none=>
      have Zg:Hid (iN N S s (k+1)=iN N S s k):=by unfold Hid;rw[tI HX.o];unfold dS;rw[hwo]
      rw[hwo]at hC;simp only[tick]at hC;clear hwo;go_wp2_with fail
      refine hC.mono ?_;rintro e w5 ⟨rfl,qd⟩;have lQ:=hid qd;clear qd hC b0 b1 b2 b3 b4 m0 m1 m2 m3 s0 s1 s2 s3 s4 s5 r0 r1 r2 r3 uM;go_wp2_with fail
      refine⟨⟨k+1,by omega,by go_num,by rw[Zg.o],rC.o.trans' (KT.o.trans' ((ab.of lQ.o).trans' (ab.alloc _ _ _))),D2,bP.on SG.o.1 ?_,SG.o.2⟩,by simp[intOf];omega⟩;exact((KT0.o.trans' (ab.of lQ.o)).trans' (ab.alloc _ _ _)).block M HMR.o (by simp)
     |some r=>
      have Zh:Hid (fh r):=mD HS.o hwo;have HRT:Hid (total r+N=total s):=eP (xl.o m (zAT HX.o)) hwo;have Zg:Hid (iN N S s (k+1)=max (iN N S s k) (1+aY N S r)):=by unfold Hid;rw[tI HX.o];unfold dS;rw[hwo]
      rw[hwo]at hC;simp only[tick]at hC;clear hwo;go_wp2_with fail
      refine hC.mono ?_;rintro e w5 ⟨rfl,qd⟩;have lQ:=hid qd;clear qd hC b0 b1 b2 b3 b4 m0 m1 m2 m3 s0 s1 s2 s3 s4 s5 r0 r1 r2 r3 uM;obtain⟨w6,hw6⟩:=ex1 (w5.alloc (.cells (tick r) 91));have BR:Hid (aL w6 w5.heap.size 91 (tick r)):=cF hw6;have K6:Hid (ab [] wr w6):=by rw[<-hw6];exact((KT0.o.trans' (ab.of lQ.o)).trans' (ab.alloc _ _ _))
      have HA6:Hid (gM w6 b v2 v3 v4 v5 (some ⟨blk,off,none⟩) c S gk ga gs gm M):=HAr.o.on (K6.o.mono (by simp));have HD6:Hid (bP w6 N S M D2):=bP.on SG.o.1 (K6.o.block M HMR.o (by simp));have hC:=HIH.o w6 r D2 (by have:=HRT.o;have:=HF.o;omega) Zh.o HA6.o HD6.o;obtain⟨mr,hmr⟩:∃mr:Nat,aY N S r=mr:=⟨_,rfl⟩
      have zhS:=hid hmr
      have zkQ:mr<=15:=by
       have h1:aY N S r<=total r:=oh nU.1 xl.o (total r+1) r;have h0:=Zh.o 0 (by omega);have sR:=Zh.o 1 (by omega);have h2:=Zh.o 2 (by omega);have h3:=Zh.o 3 (by omega);have h4:=Zh.o 4 (by omega)
       have h5:total r<=15:=by unfold total;omega
       omega
      rw[hmr]at hC;have cm:=HA6.o.fm.cell 0 rfl;obtain⟨c0,c1,c2,c3,c4⟩:=BR.o.c5;have lL:wrap64 (1+(mr:Int))=1+(mr:Int):=by unfold wrap64;omega
      simp only[tick]at hw6 hC;clear hmr
      go_wp2_with(go_at_call 54
                  refine hC.mono ?_;rintro e w7 ⟨⟨rfl,D3,hD3,Zi⟩,hk7⟩;have HD3:=hid hD3;have OS:=hid Zi;have HK7:=hid hk7;clear hD3 Zi hk7 hC)
      refine⟨⟨k+1,by omega,by go_num,?_,rC.o.trans' ((K6.o.mono (by simp)).trans' HK7.o),D3,HD3.o,SG.o.2.trans (OS.o.mono (by have:=HRT.o;omega))⟩,by simp[intOf];omega⟩;rw[Zg.o,zhS.o];congr 1;omega
    .have e:k=S.length:=by omega
     subst e;have HB:Hid (aL wr w.heap.size 91 (tick s)):=rC.o.box B1.o (by simp;have:=HMW.o;omega);have HAr:Hid (gM wr b v2 v3 v4 v5 a c S gk ga gs gm M):=EQ.o.on rC.o;have ck:=HAr.o.fk.cell 0 rfl;obtain⟨b0,b1,b2,b3,b4⟩:=HB.o.c5;obtain⟨n2,UL,XO⟩:=SG.o.1.own;have oK:=hid UL;have zhU:=hid XO;have zhV:n2<=1024:=zAM XO (XL D2);have zhW:Hid (iN N S s S.length=mo):=by unfold Hid;rw[wR nU.1 xl.o,Ul.o]
     have RN:Hid (Maps.has D2 kl=false):=by unfold Hid;rw[SG.o.2 s kl HS.o zf.o (zAA _)];exact HH.o
     rw[zhW.o];clear UL XO
     go_wp2_with(at_mapUpdate
                 refine wpList_mapUpdate_own _ rfl _ _ _ 87 rfl 91 3 oe G7 (plainElem ZP 3) M n2 D2 rfl oK.o (by unfold maxLen;omega) _ _ kl rfl rfl qu (.lit (.int .i64 (mo:Int))) [] (plainElem_int uP (WalkArith.wf_i64 ⟨by omega,by omega⟩)) ?_;intro w9 UM Yu;have HO9:=hid UM;have HK9:Hid (ab [M] wr w9):=ab.grown Yu λk hk=>by cases hk;simp
                 clear UM Yu)
     go_ret;refine⟨⟨rfl,D2.put kl (.lit (.int .i64 (mo:Int))),?_,nf.put SG.o.2 zf.o⟩,KA.o.trans' (rC.o.trans' HK9.o)⟩;have h:=HO9.o;rw[<-Ul.o]at h⊢;exact bP.put xl.o SG.o.1 zhU.o HS.o zf.o RN.o h
end Go.Proofs.Cz
