/- A part. Conditions: none. -/
import Derived.Test.YtddlcmejelobdaaGreatDoorT33
import Derived.Maps.OwnOps
import Derived.Maps.OwnSet
import Derived.DeepKeys4
set_option linter.all false
set_option maxHeartbeats 8000000
set_option maxRecDepth 100000
namespace Go.Proofs.Cz
open Go.RowKit Go.Maps
def GE:ZP.underlying 87=some (.map 91 3):=(Tz.under 87).trans Tryz.underlying87
def qI:ZP.underlying 91=some (.struct #[{name:= "many",type:=89,offset:=0,embedded:=false,tag:= "",pkgPath:= "nosale/build",byteOffset:=0}]):=(Tz.under 91).trans Tryz.underlying91
def Sc:ZP.underlying 89=some (.array 5 3):=(Tz.under 89).trans Tryz.underlying89
def tZ:ZP.underlying 3=some (.int .i64):=(Tz.under 3).trans Tryz.underlying3
def vX:91<ZP.types.size:=by
 have h:Nat.blt 91 ZP.types.size=true:=by kernel_rfl
 exact zBC h
def zbG:laidOutB ZP=true:=by kernel_rfl
def zbH:ZP.keyTypeAt 3 91=true:=by kernel_rfl
def zbI:(match ZP.underlying 91 with|some (.array _ _)|some (.struct _)=>true|_=>false)=true:=by rw[qI]
def zgU:WideMaps.KeyLaw ZP 91:=deep_law_laid zbG (by omega) vX zbH zbI
def nk:Keyed ZP 91:=Keyed.of_law zgU
set_option maxRecDepth 4000 in
def KJ (s:Nat->Int) (h:∀i,i<5->0<=s i/\s i<=3):∃kl,keyOf ZP 91 (.agg (tick s))=some kl:=by
 have h1:ZP.keyType 91=true:=by kernel_rfl
 have h2:ZP.cellsOf 91=5:=by kernel_rfl
 have h3:ZP.cellsOf 89=5:=by kernel_rfl
 have h4:ZP.cellsOf 3=1:=by kernel_rfl
 obtain⟨n,hn⟩:∃n,ZP.types.size+1=n+3:=⟨ZP.types.size-2,by have:=vX;omega⟩
 have hw:∀i,i<5->(Lit.int .i64 (s i)).wf=true:=λi hi=>WalkArith.wf_i64 ⟨by have:=h i hi;omega,by have:=h i hi;omega⟩;unfold keyOf;rw[qI,hn];simp only[h1,Value.formed,qI,h2];have cr:(tick s).size=5:=rfl;have BH:(Value.agg (tick s)).cells.toList=[.int .i64 (s 0),.int .i64 (s 1),.int .i64 (s 2),.int .i64 (s 3),.int .i64 (s 4)]:=rfl;have O9:List.range 5=[0,1,2,3,4]:=rfl;rw[BH]
 have hk:ZP.keyLits (n+3) 91 [.int .i64 (s 0),.int .i64 (s 1),.int .i64 (s 2),.int .i64 (s 3),.int .i64 (s 4)]=some [.int .i64 (s 0),.int .i64 (s 1),.int .i64 (s 2),.int .i64 (s 3),.int .i64 (s 4)]:=by
  simp[Program.keyLits,qI,Sc,tZ,h2,h3,h4,hw,O9]
 rw[hk,zAF (by simp[cr])];exact⟨_,rfl⟩
end Go.Proofs.Cz
namespace Go.Proofs.Cz
open Go.RowKit
variable {N:Nat} {S:List (Nat->Int)} {m s:Nat->Int} {α:Type}
def au (s m:Nat->Int):Nat->Option (Nat->Int)
 |0=>some s
 |k+1=>match au s m k with
  |none=>none
  |some r=>if r (m k).toNat-1<0 then none else some (upd r (m k).toNat (r (m k).toNat-1))
def dN (s:Nat->Int):Prop:=∀i,i<5->0<=s i/\s i<=3
def lJ {s m:Nat->Int} (h:dN s):∀{k:Nat} {r:Nat->Int},au s m k=some r->dN r
 |0,r,e=>by cases e;exact h
 |k+1,r,e=>by
  unfold au at e;cases hw:au s m k with
  |none=>rw[hw]at e;cases e
  |some q=>
   rw[hw]at e;simp only at e;split at e
   .cases e
   .cases e;have hq:=lJ h hw;intro i hi;by_cases hx:i=(m k).toNat
    .subst hx;rw[bO];have:=hq _ hi;omega
    .rw[az _ _ hx];exact hq i hi
def total (s:Nat->Int):Nat:=(s 0).toNat+(s 1).toNat+(s 2).toNat+(s 3).toNat+(s 4).toNat
def KK {j:Nat} (hj:j<5) (h:0<=s j-1):total (upd s j (s j-1))+1=total s:=by
 unfold total;match j,hj with
 |0,_=>simp only[bO,az _ _ (show 1≠0 by decide),az _ _ (show 2≠0 by decide),az _ _ (show 3≠0 by decide),az _ _ (show 4≠0 by decide)];omega
 |1,_=>simp only[bO,az _ _ (show 0≠1 by decide),az _ _ (show 2≠1 by decide),az _ _ (show 3≠1 by decide),az _ _ (show 4≠1 by decide)];omega
 |2,_=>simp only[bO,az _ _ (show 0≠2 by decide),az _ _ (show 1≠2 by decide),az _ _ (show 3≠2 by decide),az _ _ (show 4≠2 by decide)];omega
 |3,_=>simp only[bO,az _ _ (show 0≠3 by decide),az _ _ (show 1≠3 by decide),az _ _ (show 2≠3 by decide),az _ _ (show 4≠3 by decide)];omega
 |4,_=>simp only[bO,az _ _ (show 0≠4 by decide),az _ _ (show 1≠4 by decide),az _ _ (show 2≠4 by decide),az _ _ (show 3≠4 by decide)];omega
def du:∀{k:Nat} {r:Nat->Int},(∀i,i<k->0<=m i/\m i<5)->au s m k=some r->total r+k=total s
 |0,r,_,e=>by cases e;rfl
 |k+1,r,hm,e=>by
  unfold au at e;cases hw:au s m k with
  |none=>rw[hw]at e;cases e
  |some q=>
   rw[hw]at e;simp only at e;split at e
   .cases e
   .rename_i hn;cases e;have h1:=du (λi hi=>hm i (by omega)) hw;have h2:=hm k (by omega);have h3:=KK (s:=q) (j:=(m k).toNat) (by omega) (by omega);omega
def np (N:Nat) (S:List (Nat->Int)):Nat->(Nat->Int)->Nat
 |0,_=>0
 |f+1,s=>S.foldl (λn m=>match au s m N with|none=>n|some r=>max n (1+np N S f r)) 0
def fold_congr {f g:Nat->α->Nat}:∀{l:List α} {n:Nat},(∀n,∀x∈l,f n x=g n x)->l.foldl f n=l.foldl g n
 | [],_,_=>rfl
 |x::l,n,h=>by
  rw[zDA,zDA,h n x zBL];exact fold_congr λn y hy=>h n y (zAR _ hy)
def vY (hN:1<=N) (hS:∀m∈S,∀i,i<N->0<=m i/\m i<5):∀(f g:Nat) (s:Nat->Int),total s<f->total s<g->np N S f s=np N S g s
 |0,_,s,h,_=>by omega
 |_+1,0,s,_,h=>by omega
 |f+1,g+1,s,hf,hg=>by
  unfold np;refine fold_congr λn m hm=>?_;cases hw:au s m N with
  |none=>rfl
  |some r=>
   have ht:=du (hS m hm) hw;simp only;rw[vY hN hS f g r (by omega) (by omega)]
def ci (N:Nat) (S:List (Nat->Int)) (s:Nat->Int):Nat:=np N S (total s+1) s
def dE (N:Nat) (S:List (Nat->Int)) (s:Nat->Int) (n:Nat) (m:Nat->Int):Nat:=match au s m N with|none=>n|some r=>max n (1+ci N S r)
def im (N:Nat) (S:List (Nat->Int)) (s:Nat->Int) (k:Nat):Nat:=(S.take k).foldl (dE N S s) 0
def DX (N:Nat) (S:List (Nat->Int)) (s:Nat->Int):im N S s 0=0:=rfl
def sN {k:Nat} (h:S[k]?=some m):im N S s (k+1)=dE N S s (im N S s k) m:=by
 unfold im;rw[zBR,h,Option.toList_some,List.foldl_append];rfl
def vZ (hN:1<=N) (hS:∀m∈S,∀i,i<N->0<=m i/\m i<5) (s:Nat->Int):im N S s S.length=ci N S s:=by
 unfold im ci np;rw[zCU];refine fold_congr λn m hm=>?_;unfold dE;cases hw:au s m N with
 |none=>rfl
 |some r=>
  have ht:=du (hS m hm) hw;simp only;unfold ci;rw[vY hN hS (total r+1) (total s) r (by omega) (by omega)]
def IN {f:Nat->α->Nat} {c:Nat}:∀{l:List α} {n:Nat},n<=c->(∀n,n<=c->∀x∈l,f n x<=c)->l.foldl f n<=c
 | [],_,h,_=>h
 |x::l,n,h,g=>by
  rw[zDA];exact IN (g n h x zBL) λn hn y hy=>g n hn y (zAR _ hy)
def v6 (hN:1<=N) (hS:∀m∈S,∀i,i<N->0<=m i/\m i<5):∀(f:Nat) (s:Nat->Int),np N S f s<=total s
 |0,_=>zAM _
 |f+1,s=>by
  unfold np;refine IN (zAM _) λn hn m hm=>?_;cases hw:au s m N with
  |none=>exact hn
  |some r=>
   have ht:=du (hS m hm) hw;have h2:=v6 hN hS f r;simp only;omega
def jW {fn:Func} {p u:Tmp} {ty:a00} (h:fn.results=#[.cell p ty,.tmp u]) (tmps:Array fu) (P:un) (w:nq):
 (results fn tmps).run P w=
   ((asAddr (tmps.getD p undef)).run P w).andThen λa w₁=>((loadVar ty a).run P w₁).andThen λv w₂=>.ok (.tuple #[v,tmps.getD u undef]) w₂:=by
 simp only[results,h];simp[Sem.run_bind,Result.andThen]
def DY (w:nq) (v2 v3 v4:fu) (b:ab) (N:Nat) (hN:b.ah=N) (rN:N<=4) (s m:Nat->Int) (hs:dN s) (hm:∀i,i<N->0<=m i/\m i<5):
 Calls ZP 55 #[.agg #[.int .i64 b.ak,.int .i64 b.ah,v2,v3,v4],.agg (tick s),.agg (bY m)] w
  (bK w (match au s m N with|none=>.tuple #[.agg (tick λ_=>0),.bool false]|some r=>.tuple #[.agg (tick r),.bool true])):=by
 have HS:Hid (dN s):=hs;rw[hN];obtain⟨R,hR⟩:=ex1 ((match au s m N with|none=>Value.tuple #[.agg (tick λ_=>0),.bool false]|some r=>.tuple #[.agg (tick r),.bool true]));have HRn:Hid (au s m N=none->.tuple #[.agg (tick λ_=>0),.bool false]=R):=λh=>by rw[<-hR,h]
 have HRs:Hid (∀r,au s m N=some r->.tuple #[.agg (tick r),.bool true]=R):=λr h=>by rw[<-hR,h]
 rw[hR];clear hR;obtain⟨A1,bh⟩:=ex1 (w.alloc (.cells #[.int .i64 b.ak,.int .i64 N,v2,v3,v4] 78));obtain⟨A2,bL⟩:=ex1 (A1.alloc (.cells (tick s) 91));obtain⟨A3,gP⟩:=ex1 (A2.alloc (.cells (bY m) 94));obtain⟨A4,pA⟩:=ex1 (A3.alloc (.cells #[.int .i64 0,.int .i64 0,.int .i64 0,.int .i64 0,.int .i64 0] 91));have eL:=snew bh;have j8:=snew2 bL eL;have zH:=snew2 gP j8
 have B1:Hid (aA A4 w.heap.size 78 #[.int .i64 b.ak,.int .i64 N,v2,v3,v4]):=by
  rw[<-pA];refine(aa.alloc [] _ _).box ?_ (by simp<;>omega);rw[<-gP];refine(aa.alloc [] _ _).box ?_ (by simp<;>omega);rw[<-bL];refine(aa.alloc [] _ _).box ?_ (by simp<;>omega);rw[<-bh];exact aA.new _ _ _
 have B2:Hid (aA A4 (w.heap.size+1) 91 (tick s)):=by
  rw[<-pA];refine(aa.alloc [] _ _).box ?_ (by simp<;>omega);rw[<-gP];refine(aa.alloc [] _ _).box ?_ (by simp<;>omega);rw[<-bL,<-eL];exact aA.new _ _ _
 have B3:Hid (aA A4 (w.heap.size+1+1) 94 (bY m)):=by
  rw[<-pA];refine(aa.alloc [] _ _).box ?_ (by simp<;>omega);rw[<-gP,<-j8];exact aA.new _ _ _
 have B4:=bnew2 pA zH;have HW:Hid (Below w.heap.size w A4):=by rw[<-pA,<-gP,<-bL,<-bh];exact((((aa.alloc [] _ _).cU _).cU _).cU _).below (by simp<;>omega) (zAB _)
 obtain⟨-,z1⟩:=B1.o.c2;simp only[bY,tick]at bL gP⊢;clear hN hs;go_enter ZF55,Tryz.ntmps55
 go_wp2
 clear bh bL gP pA eL j8 zH z1;go_loopw [12,8] (λi _ wr=>∃(k:Nat) (r:Nat->Int),k<=N/\i=.int .i64 k/\Hid (au s m k=some r)/\Hid (aa [w.heap.size+1] A4 wr/\aA wr (w.heap.size+1) 91 (tick r))) (λi _ _=>N-(intOf i).toNat)
 case atStart=>exact⟨0,s,zAM _,rfl,rfl,aa.refl _ _,B2.o⟩
 case round=>
  obtain⟨k,r,hk,rfl,hr,hK⟩:=hrel;have C1:=hK.o.1.box B1.o (by simp<;>omega);have C3:=hK.o.1.box B3.o (by simp<;>omega);have C4:=hK.o.1.box B4.o (by simp<;>omega);have tA:Hid (Below w.heap.size w wr):=HW.o.trans (hK.o.1.below (by simp<;>omega) HW.o.size);have qU:Hid (dN r):=lJ HS.o hr.o;by_cases av:k<N
  .have mw:k<4:=by omega
   have hki:(k:Int)<(N:Int):=by omega
   obtain⟨j,hj⟩:∃j:Nat,m k=(j:Int):=⟨(m k).toNat,by have:=(hm k av).1;omega⟩
   have Ry:j<5:=by have:=(hm k av).2;omega
   have UK:(j:Int)<5:=by omega
   have znH:(k:Int)<4:=by omega
   have c2:wr.cell? ⟨w.heap.size+1+1,k,none⟩=some (.int .i64 j):=by rw[<-hj];exact C3.cell k (fR mw _)
   have c3:wr.cell? ⟨w.heap.size+1,j,none⟩=some (.int .i64 (r j)):=hK.o.2.cell j (dV Ry _);have f3:=hK.o.2.aH j;have hrj:=qU.o j Ry;obtain⟨x,hx⟩:=ex1 (r j);have HX:Hid (r j=x):=hx;rw[hx]at c3 hrj;have iO:wrap64 (x-1)=x-1:=by unfold wrap64;omega
   obtain⟨wn,Um⟩:=ex1 (wr.setCell ⟨w.heap.size+1,j,none⟩ (.int .i64 (x-1)))
   have Bn:Hid (aA wn (w.heap.size+1) 91 (tick (upd r j (x-1)))):=by
    have h:=hK.o.2.set j (.int .i64 (x-1));rwa [qA Ry,Um]at h
   have Kn:Hid (aa [w.heap.size+1] wr wn):=by rw[<-Um];exact aa.set _ (by simp<;>omega) _
   have d2:wn.cell? ⟨w.heap.size+1+1,k,none⟩=some (.int .i64 j):=by rw[<-hj];exact(Kn.o.box C3 (by simp<;>omega)).cell k (fR mw _)
   have d3:wn.cell? ⟨w.heap.size+1,j,none⟩=some (.int .i64 (x-1)):=by have h:=Bn.o.cell j (dV Ry _);rwa [bO]at h
   have E4:=Kn.o.box C4 (by simp<;>omega);have HWn:Hid (Below w.heap.size w wn):=tA.o.trans (Kn.o.below (by simp<;>omega) tA.o.size)
   have Ui:Hid (x-1<0->au s m N=none):=λzgW=>by
    have h1:au s m (k+1)=none:=by
     rw[au,hr.o];simp only;rw[hj,zEA,HX.o,zAF zgW]
    have h2:∀d,au s m (k+1+d)=none:=λd=>by
     induction d with
     |zero=>exact h1
     |succ d ih=>rw[show k+1+(d+1)=(k+1+d)+1 by omega,au,ih]
    have:=h2 (N-(k+1));rwa [show k+1+(N-(k+1))=N by omega]at this
   have jA:Hid (¬x-1<0->au s m (k+1)=some (upd r j (x-1))):=λhn=>by
    rw[au,hr.o];simp only;rw[hj,zEA,HX.o,zAG hn]
   have e0:=E4.c1;have f10:=E4.aH 0;have g0:=E4.same (i:=0) (v:=.int .i64 0) rfl;obtain⟨-,e1⟩:=E4.c2;have f11:=E4.aH 1;have g1:=E4.same (i:=1) (v:=.int .i64 0) rfl;obtain⟨-,-,e2⟩:=E4.c3;have f12:=E4.aH 2;have g2:=E4.same (i:=2) (v:=.int .i64 0) rfl;obtain⟨-,-,-,e3⟩:=E4.c4;have f13:=E4.aH 3;have g3:=E4.same (i:=3) (v:=.int .i64 0) rfl;obtain⟨-,-,-,-,e4⟩:=E4.c5;have f14:=E4.aH 4;have g4:=E4.same (i:=4) (v:=.int .i64 0) rfl;clear C1 C3 C4 E4 hj hx hrj;by_cases zbJ:x-1<0
   .have HF:Hid (au s m N=none):=Ui.o zbJ;go_wp2_with fail
    refine bodyPost_ret (v:=.tuple #[.agg (tick λ_=>0),.bool false]) ?_ rfl ⟨zBB Ending.returned (HRn.o HF.o),HWn.o⟩;rw[jW rfl];simp only[tick];go_simp
   .have HF:Hid (au s m (k+1)=some (upd r j (x-1))):=jA.o zbJ;go_wp2_with fail
    refine⟨⟨k+1,_,by omega,by go_num,HF.o,hK.o.1.trans' Kn.o,Bn.o⟩,by simp[intOf];omega⟩
  .have e:k=N:=by omega
   subst e;have HF:=hid hr;have Br:=hK.o.2;have c0:=Br.c1;have f0:=C4.aH 0;have e0:=C4.c1;obtain⟨-,c1⟩:=Br.c2;have f1:=C4.aH 1;obtain⟨-,e1⟩:=C4.c2;obtain⟨-,-,c2⟩:=Br.c3;have f2:=C4.aH 2;obtain⟨-,-,e2⟩:=C4.c3;obtain⟨-,-,-,c3⟩:=Br.c4;have f3:=C4.aH 3;obtain⟨-,-,-,e3⟩:=C4.c4;obtain⟨-,-,-,-,c4⟩:=Br.c5;have f4:=C4.aH 4;obtain⟨-,-,-,-,e4⟩:=C4.c5;obtain⟨wn,Um⟩:=ex1 ((((((wr.setCell ⟨w.heap.size+1+1+1,0,none⟩ (.int .i64 (r 0))).setCell ⟨w.heap.size+1+1+1,1,none⟩ (.int .i64 (r 1))).setCell ⟨w.heap.size+1+1+1,2,none⟩ (.int .i64 (r 2))).setCell ⟨w.heap.size+1+1+1,3,none⟩ (.int .i64 (r 3))).setCell ⟨w.heap.size+1+1+1,4,none⟩ (.int .i64 (r 4))))
   have Bn:aA wn (w.heap.size+1+1+1) 91 (tick r):=by
    have h:=((((C4.set 0 (.int .i64 (r 0))).set 1 (.int .i64 (r 1))).set 2 (.int .i64 (r 2))).set 3 (.int .i64 (r 3))).set 4 (.int .i64 (r 4));rw[Um]at h;exact h
   have HWn:Hid (Below w.heap.size w wn):=by
    rw[<-Um];refine tA.o.trans (aa.below (O:=[w.heap.size+1+1+1]) ?_ (by simp<;>omega) tA.o.size);exact((((aa.set _ (by simp<;>omega) _).trans' (aa.set _ (by simp<;>omega) _)).trans' (aa.set _ (by simp<;>omega) _)).trans' (aa.set _ (by simp<;>omega) _)).trans' (aa.set _ (by simp<;>omega) _)
   obtain⟨d0,d1,d2,d3,d4⟩:=Bn.c5;obtain⟨-,z1⟩:=C1.c2;clear C1 C3 C4 Br Bn;go_wp2_with fail
   refine bodyPost_ret (v:=.tuple #[.agg (tick r),.bool true]) ?_ rfl ⟨zBB Ending.returned (HRs.o r HF.o),HWn.o⟩;rw[jW rfl];simp only[tick];go_simp
end Go.Proofs.Cz
namespace Go.Proofs.Cz
open Go.RowKit Go.Maps
variable {D:DataW Unit} {M N:Nat} {S:List (Nat->Int)} {kl:Lit} {s t:Nat->Int} {w w':nq}
def nr (s t:Nat->Int):Prop:=∀i,i<5->s i=t i
def wd (h:tick s=tick t):nr s t:=λi hi=>by
 have h1:=dV hi s;rw[h,dV hi t]at h1;exact(by simpa using h1:t i=s i).symm
def nr.total (h:nr s t):total s=total t:=by
 unfold Cz.total;rw[h 0 (by omega),h 1 (by omega),h 2 (by omega),h 3 (by omega),h 4 (by omega)]
def nr.IP {m:Nat->Int} (h:nr s t):∀{k:Nat},(∀i,i<k->0<=m i/\m i<5)->(au s m k=none/\au t m k=none)\/∃r q,au s m k=some r/\au t m k=some q/\nr r q
 |0,_=>.inr ⟨s,t,rfl,rfl,h⟩
 |k+1,hm=>by
  have iS:=hm k (by omega);have hj:(m k).toNat<5:=by omega
  rcases h.IP (k:=k) (λi hi=>hm i (by omega))with⟨h1,h2⟩|⟨r,q,h1,h2,h3⟩
  .exact .inl ⟨by unfold au;rw[h1],by unfold au;rw[h2]⟩
  .unfold au;rw[h1,h2];simp only;rw[<-h3 _ hj];split
   .exact .inl ⟨rfl,rfl⟩
   .refine .inr ⟨_,_,rfl,rfl,λi hi=>?_⟩;by_cases e:i=(m k).toNat
    .subst e;rw[bO,bO]
    .rw[az _ _ e,az _ _ e,h3 i hi]
def sO (hS:∀m∈S,∀i,i<N->0<=m i/\m i<5):∀(f:Nat) {s t:Nat->Int},nr s t->np N S f s=np N S f t
 |0,_,_,_=>rfl
 |f+1,s,t,h=>by
  unfold np;refine fold_congr λn m hm=>?_;rcases h.IP (hS m hm)with⟨h1,h2⟩|⟨r,q,h1,h2,h3⟩
  .rw[h1,h2]
  .rw[h1,h2];simp only;rw[sO hS f h3]
def AX (hS:∀m∈S,∀i,i<N->0<=m i/\m i<5) (h:nr s t):ci N S s=ci N S t:=by
 unfold ci;rw[h.total,sO hS _ h]
def iX (c:Nat):Nat->Int:=λi=>((c/4^i%4:Nat):Int)
def gS (s:Nat->Int):Nat:=(s 0).toNat+4*(s 1).toNat+16*(s 2).toNat+64*(s 3).toNat+256*(s 4).toNat
def Sd (h:dN s):gS s<1024:=by
 have h0:=h 0 (by omega);have h1:=h 1 (by omega);have h2:=h 2 (by omega);have h3:=h 3 (by omega);have h4:=h 4 (by omega)
 unfold gS;omega
def yZ (h:dN s):tick (iX (gS s))=tick s:=by
 have h0:=h 0 (by omega);have h1:=h 1 (by omega);have h2:=h 2 (by omega);have h3:=h 3 (by omega);have h4:=h 4 (by omega)
 have e0:iX (gS s) 0=s 0:=by unfold iX gS;simp only[Nat.pow_zero,Nat.div_one];omega
 have e1:iX (gS s) 1=s 1:=by unfold iX gS;rw[show(4:Nat)^1=4 from rfl];omega
 have e2:iX (gS s) 2=s 2:=by unfold iX gS;rw[show(4:Nat)^2=16 from rfl];omega
 have e3:iX (gS s) 3=s 3:=by unfold iX gS;rw[show(4:Nat)^3=64 from rfl];omega
 have e4:iX (gS s) 4=s 4:=by unfold iX gS;rw[show(4:Nat)^4=256 from rfl];omega
 unfold tick;rw[e0,e1,e2,e3,e4]
def Se (D:DataW Unit) (c:Nat):Prop:=∃kl,keyOf ZP 91 (.agg (tick (iX c)))=some kl/\Maps.has D kl=true
open Classical in
noncomputable def cnt (D:DataW Unit):Nat:=((List.range 1024).filter λc=>decide (Se D c)).length
def Xq (D:DataW Unit):cnt D<=1024:=by
 unfold cnt;refine zAP (zEH _ _) ?_;rw[List.length_range];exact zAB _
def sP {α:Type} {p q:α->Bool} {a:α} (hp:p a=false) (hq:q a=true):∀{l:List α},(∀x∈l,p x=true->q x=true)->a∈l->(l.filter p).length+1<=(l.filter q).length
 | [],_,h=>by cases h
 |x::l,h,ha=>by
  have Tf:∀{l:List α},(∀x∈l,p x=true->q x=true)->(l.filter p).length<=(l.filter q).length:=λ{l} h=>by
   induction l with
   |nil=>exact zAB _
   |cons y l ih=>
    have h2:=ih λz hz=>h z (zAR _ hz);rw[zED,zED];by_cases hy:p y=true
    .rw[zAF hy,zAF (h y zBL hy)];simpa using h2
    .rw[zAG hy];split
     .simp;omega
     .exact h2
  have ht:=λz (hz:z∈l)=>h z (zAR _ hz);rw[zED,zED];rcases zAL.1 ha with rfl|ha
  .rw[zAG (by rw[hp];exact λh=>by cases h),zAF hq];simpa using Tf ht
  .have h2:=sP hp hq ht ha;by_cases hx:p x=true
   .rw[zAF hx,zAF (h x zBL hx)];simpa using h2
   .rw[zAG hx];split
    .simp;omega
    .exact h2
open Classical in
def Sg {d:DataW Unit} (hD:IsMap D) (hs:dN s) (hk:keyOf ZP 91 (.agg (tick s))=some kl) (hn:Maps.has D kl=false):cnt D+1<=cnt (D.put kl d):=by
 unfold cnt;refine sP (a:=gS s) (zDV ?_) (zDS ?_) (λc _ hc=>zDS ?_) (zDI.2 (Sd hs))
 .rintro⟨Yy,h1,h2⟩;rw[yZ hs,hk]at h1;cases h1;rw[hn]at h2;cases h2
 .exact⟨kl,by rw[yZ hs];exact hk,has_put_same hD (nk.key hk) d⟩
 .obtain⟨Yy,h1,h2⟩:=zEK hc;refine⟨Yy,h1,?_⟩;by_cases e:Yy=kl
  .subst e;exact has_put_same hD (nk.key hk) d
  .rw[has_put_other e];exact h2
structure bE (w:nq) (N:Nat) (S:List (Nat->Int)) (M:Nat) (D:DataW Unit):Prop where
 own:∃n,w.ownsMap ZP 91 (plainElem ZP 3) M n D/\n<=cnt D
 map:IsMap D
 Xr:∀s,dN s->∀kl,keyOf ZP 91 (.agg (tick s))=some kl->Maps.has D kl=true->D.atKey kl (.lit (.int .i64 0))=.lit (.int .i64 (ci N S s:Nat))
def bE.made (w:nq) (N:Nat) (S:List (Nat->Int)):bE (w.alloc (.map #[] 0)) N S w.heap.size (.map []):=
 ⟨⟨0,World.ownsMap_made _ _ _ _,zAM _⟩,⟨[],rfl⟩,λs _ kl _ h=>by cases h⟩
def bE.on (h:bE w N S M D) (hk:w'.heap[M]?=w.heap[M]?):bE w' N S M D:=by
 obtain⟨n,⟨es,clock,hb,F,hs,hD⟩,h2⟩:=h.own;exact⟨⟨n,⟨es,clock,hk.trans hb,F,hs,hD⟩,h2⟩,h.map,h.Xr⟩
def bE.lt (h:bE w N S M D):M<w.heap.size:=by
 obtain⟨n,ho,_⟩:=h.own;exact ho.lt
def bE.put {n:Nat} (hS:∀m∈S,∀i,i<N->0<=m i/\m i<5) (h:bE w N S M D) (hn:n<=cnt D) (hs:dN s) (hk:keyOf ZP 91 (.agg (tick s))=some kl) (iP:Maps.has D kl=false)
 (ho:w'.ownsMap ZP 91 (plainElem ZP 3) M (n+1) (D.put kl (.lit (.int .i64 (ci N S s:Nat))))):bE w' N S M (D.put kl (.lit (.int .i64 (ci N S s:Nat)))):=by
 refine⟨⟨n+1,ho,zAP (Nat.succ_le_succ hn) (Sg h.map hs hk iP)⟩,?_,λt ht Yy f7 hh=>?_⟩
 .obtain⟨es,rfl⟩:=h.map;exact⟨_,rfl⟩
 .by_cases e:Yy=kl
  .subst e;rw[atKey_put_same h.map (nk.key hk)];have h1:=nk.inj f7 hk;rw[AX hS (wd (by simpa using h1.symm))]
  .rw[atKey_put_other e];rw[has_put_other e]at hh;exact h.Xr t ht Yy f7 hh
end Go.Proofs.Cz
