/- A part. Conditions: none. -/
import Derived.Test.YthmokljbbkcjdaaGreatDoorT42
import Derived.Lib.SlicesCompact
set_option linter.all false
set_option maxHeartbeats 8000000
set_option maxRecDepth 100000
namespace Go.Proofs.Cz
open Go.RowKit
variable {L:List (Nat->Int)} {ag:(Nat->Int)->Bool} {b:aS} {c hi lo:Int} {i j:Nat} {l:List Part} {x:Part}
theorem kf (h:j≠i):(retime l i lo hi)[j]?=l[j]?:=by
 unfold retime;split
 .rw[List.getElem?_set_ne (Ne.symm h)]
 .rfl
theorem m9 (h:l[i]?=some x):(retime l i lo hi)[i]?=some {x with lo:=lo,hi:=hi}:=by
 unfold retime;rw[h];simp only;rw[List.getElem?_set_self (List.getElem?_eq_some_iff.1 h).1]
theorem pG {y:Part} (h:(retime l i lo hi)[j]?=some y):∃x,l[j]?=some x/\y.name=x.name/\y.cost=x.cost/\y.cm=x.cm/\y.fits=x.fits/\(y=x\/(j=i/\y.lo=lo/\y.hi=hi)):=by
 by_cases e:j=i
 .subst e;cases hx:l[j]? with
  |none=>
   unfold retime at h;rw[hx]at h;simp only at h;rw[hx]at h;cases h
  |some x=>
   rw[m9 hx]at h;cases h;exact⟨x,rfl,rfl,rfl,rfl,rfl,.inr ⟨rfl,rfl,rfl⟩⟩
 .rw[kf e]at h;exact⟨y,h,rfl,rfl,rfl,rfl,.inl rfl⟩
theorem tR {l:List Int} (h:io b l):io (bV b i lo hi) l:=by
 refine⟨h.len,?_,?_⟩
 .show lh l ((retime b.parts i lo hi).length:Int) l.length;rw[gI];exact h.range
 .intro j x hj hx;obtain⟨⟨P,hP,hf⟩,h2⟩:=h.fit j x hj hx;refine⟨?_,h2⟩;by_cases e:x.toNat=i
  .exact⟨{P with lo:=lo,hi:=hi},show(retime b.parts i lo hi)[x.toNat]?=some _ by rw[e];exact m9 (e▸hP),hf⟩
  .exact⟨P,show(retime b.parts i lo hi)[x.toNat]?=some P by rw[kf e];exact hP,hf⟩
theorem nJ (hv:Valid b) (i:Nat) (ht:0<=lo/\lo<=hi/\hi<=20) (hw:hi-lo<4):Valid (bV b i lo hi):=by
 refine⟨hv.am,hv.places,⟨?_,?_⟩,⟨hv.fP.many,?_⟩,hv.many,?_⟩
 .show 1<=(retime b.parts i lo hi).length/\(retime b.parts i lo hi).length<=5;rw[gI];exact hv.parts.many
 .intro j y hj hy;obtain⟨x,hx,e1,e2,e3,e6,e7⟩:=pG (show(retime b.parts i lo hi)[j]?=some y from hy);have h:=hv.parts.all j x (List.getElem?_eq_some_iff.1 hx).1 hx;refine⟨⟨by rw[e1];exact h.1.name,by rw[e2];exact h.1.cost,by rw[e3];exact h.1.cm,?_,?_,by rw[e6];exact h.1.GT⟩,fun k z hk hz=>?_⟩
  .rcases e7 with rfl|⟨_,e8,e9⟩
   .exact h.1.time
   .rw[e8,e9];exact ht
  .rcases e7 with rfl|⟨_,e8,e9⟩
   .exact h.1.wide
   .rw[e8,e9];exact hw
  .obtain⟨x',kg,e1',_⟩:=pG (show(retime b.parts i lo hi)[k]?=some z from hz);rw[e1,e1'];exact h.2 k x' hk kg
 .show hU ((retime b.parts i lo hi).length:Int) b.apart b.apart.length;rw[gI];exact hv.fP.all
 .intro j t hj OW;have h:=hv.aa j t hj OW;exact⟨tR h.GX,h.LQ⟩
theorem rE {α:Type} (c:Int) (A:List α):∀(n:Nat) (lo:Int),lo<=c->c<lo+n->(span lo n).flatMap (fun k=>if k=c then A else [])=A
 |0,lo,h,h2=>by omega
 |n+1,lo,h,h2=>by
  rw[span,List.flatMap_cons];by_cases e:lo=c
  .subst e;rw[if_pos rfl]
   have:(span (lo+1) n).flatMap (fun k=>if k=lo then A else [])=[]:=by
    rw[List.flatMap_eq_nil_iff];intro k hk;rw[if_neg (by have:=(mq hk).1;omega)]
   rw[this,List.append_nil]
  .rw[if_neg e,List.nil_append];exact rE c A n (lo+1) (by omega) (by omega)
theorem tS:∀(n j:Nat) (t:Nat->Int),i<j->∀y∈bU ag l n j t,y i=t i
 |0,j,t,h,y,hy=>by
  unfold bU at hy;split at hy
  .simp at hy;subst hy;rfl
  .simp at hy
 |n+1,j,t,h,y,hy=>by
  unfold bU at hy;split at hy
  .obtain⟨k,_,hy⟩:=List.mem_flatMap.1 hy;rw[tS n (j+1) _ (by omega) y hy];unfold upd;rw[if_neg (by omega)]
  .simp at hy
theorem ic {i:Nat} (ag:(Nat->Int)->Bool) (hx:l[i]?=some x) (hc:x.lo<=c/\c<=x.hi):∀(n j:Nat) (t:Nat->Int),j+n=l.length->
 (i<j->bU ag (retime l i c c) n j t=bU ag l n j t)/\(j<=i->bU ag (retime l i c c) n j t=(bU ag l n j t).filter fun y=>decide (y i=c))
 |0,j,t,hj=>⟨fun _=>rfl,fun h=>by have:=(List.getElem?_eq_some_iff.1 hx).1;omega⟩
 |n+1,j,t,hj=>by
  constructor
  .intro h;rw[bU,bU,kf (by omega)];split
   .congr 1;funext k;exact(ic ag hx hc n (j+1) _ (by omega)).1 (by omega)
   .rfl
  .intro h;by_cases e:j=i
   .subst e;rw[bU,bU,m9 hx,hx];simp only
    rw[show(c+1-c).toNat=1 by omega,show span c 1=[c]from rfl,List.flatMap_cons,List.flatMap_nil,List.append_nil,List.filter_flatMap,
     (ic ag hx hc n (j+1) _ (by omega)).1 (by omega)]
    have e1:∀k,(bU ag l n (j+1) (upd t j k)).filter (fun y=>decide (y j=c))=if k=c then bU ag l n (j+1) (upd t j c)else []:=fun k=>by
     have h1:∀y∈bU ag l n (j+1) (upd t j k),y j=k:=fun y hy=>by
      rw[tS n (j+1) _ (by omega) y hy];unfold upd;rw[if_pos rfl]
     by_cases ek:k=c
     .subst ek;rw[if_pos rfl,List.filter_eq_self];intro y hy;simp[h1 y hy]
     .rw[if_neg ek,List.filter_eq_nil_iff];intro y hy;simp[h1 y hy,ek]
    simp only[e1];rw[rE c _ _ _ hc.1 (by omega)]
   .rw[bU,bU,kf e];split
    .rw[List.filter_flatMap];congr 1;funext k;exact(ic ag hx hc n (j+1) _ (by omega)).2 (by omega)
    .rfl
def dV (L:List (Nat->Int)) (i:Nat) (c:Int):List (Nat->Int):=L.filter fun y=>decide (y i=c)
theorem yG (hx:b.parts[i]?=some x) (hc:x.lo<=c/\c<=x.hi) (ag:(Nat->Int)->Bool):bI (bV b i c c) ag=dV (bI b ag) i c:=by
 have h:=(ic ag hx hc b.parts.length 0 (fun _=>0) (by omega)).2 (Nat.zero_le _);unfold bI;rw[show(bV b i c c).parts=retime b.parts i c c from rfl,gI];exact h
theorem mt (hx:l[i]?=some x):∀(n j:Nat) (t:Nat->Int),j<=i->j+n=l.length->∀y∈bU ag l n j t,x.lo<=y i/\y i<=x.hi
 |0,j,t,h,hj,y,hy=>by have:=(List.getElem?_eq_some_iff.1 hx).1;omega
 |n+1,j,t,h,hj,y,hy=>by
  unfold bU at hy;by_cases e:j=i
  .subst e;rw[hx]at hy;obtain⟨k,hk,hy⟩:=List.mem_flatMap.1 hy;rw[tS n (j+1) _ (by omega) y hy];have:=mq hk;unfold upd;rw[if_pos rfl];omega
  .split at hy
   .obtain⟨k,_,hy⟩:=List.mem_flatMap.1 hy;exact mt hx n (j+1) _ (by omega) (by omega) y hy
   .simp at hy
def under (L:List (Nat->Int)) (i:Nat) (c:Int):Nat:=(L.filter fun y=>decide (y i<c)).length
theorem yH (L:List (Nat->Int)) (i:Nat) (c:Int):under L i (c+1)=under L i c+(dV L i c).length:=by
 unfold under dV;induction L with
 |nil=>rfl
 |cons y L ih=>
  simp only[List.filter_cons];by_cases h1:y i<c
  .have h2:y i<c+1:=by omega
   have h3:¬y i=c:=by omega
   simp only[h1,h2,h3,decide_true,decide_false,if_true,Bool.false_eq_true,if_false,List.length_cons,ih];omega
  .by_cases h3:y i=c
   .subst h3;simp only[Int.lt_irrefl,show y i<y i+1 by omega,decide_true,decide_false,if_true,Bool.false_eq_true,if_false,List.length_cons,ih];omega
   .have h2:¬y i<c+1:=by omega
    simp only[h1,h2,h3,decide_false,Bool.false_eq_true,if_false,ih]
theorem yI (h:∀y∈L,0<=y i):under L i 0=0:=by
 unfold under;rw[List.length_eq_zero_iff,List.filter_eq_nil_iff];intro y hy;have:=h y hy;simp;omega
theorem BE (h:∀y∈L,y i<c):under L i c=L.length:=by
 unfold under;rw[List.filter_eq_self.2];intro y hy;simp[h y hy]
theorem wd {W:World} {g:Nat} (h:aJ W g 26 jm):(W.cell? ⟨g,0,none⟩=some (.int .i64 0)/\W.cell? ⟨g,1,none⟩=some (.int .i64 0)/\W.cell? ⟨g,2,none⟩=some (.slice none 0 0)/\W.cell? ⟨g,3,none⟩=some (.slice none 0 0)/\W.cell? ⟨g,4,none⟩=some (.slice none 0 0))/\
 W.frozen? ⟨g,0,none⟩=false/\W.frozen? ⟨g,1,none⟩=false/\W.frozen? ⟨g,2,none⟩=false/\W.frozen? ⟨g,3,none⟩=false/\W.frozen? ⟨g,4,none⟩=false:=
 ⟨⟨h.cell 0 rfl,h.cell 1 rfl,h.cell 2 rfl,h.cell 3 rfl,h.cell 4 rfl⟩,h.cr 0,h.cr 1,h.cr 2,h.cr 3,h.cr 4⟩
def zV (w:World) (b:aS) (i:Nat) (nl nh:Int) (e:Ending) (w':World):Prop:=
 (∃x0 x1 p2 n2 k2 p3 n3 k3 p4 n4 k4 s,e=.returned (.tuple #[.agg #[.int .i64 x0,.int .i64 x1,.slice p2 n2 k2,.slice p3 n3 k3,.slice p4 n4 k4],.int .i64 s])/\
   (((nh<nl\/bI (bV b i nl nh) (aF b)=[])/\s=9/\Value.agg #[.int .i64 x0,.int .i64 x1,.slice p2 n2 k2,.slice p3 n3 k3,.slice p4 n4 k4]=.agg jm)\/
     (nl<=nh/\bI (bV b i nl nh) (aF b)≠ []/\s=0/\H5 w w' (.agg #[.int .i64 x0,.int .i64 x1,.slice p2 n2 k2,.slice p3 n3 k3,.slice p4 n4 k4]) (bV b i nl nh))))/\Below w.heap.size w w'
theorem EC (w:World) (v:Value) (b:aS) (i:Nat) (x:Part) (lo hi:Int) (hb:ar w v b) (hv:Valid b) (hc:nH w) (hx:b.parts[i]?=some x) (hs:0<=lo/\lo<=hi/\hi<=20):
 Calls ZP 26 #[v,.int .i64 i,.agg #[.int .i64 lo,.int .i64 hi]] w (zV w b i (max x.lo lo) (min x.hi hi)):=by
 have HB:Hid (ar w v b):=hb;have HV:Hid (Valid b):=hv;have HC:Hid (nH w):=hc;have HX:Hid (b.parts[i]?=some x):=hx;have Rk:=(List.getElem?_eq_some_iff.1 hx).1;have MQ:=hv.parts.many;have Vu:=(hv.parts.all i x Rk hx).1;have HT:Hid ((0<=x.lo/\x.lo<=x.hi/\x.hi<=20)/\x.hi-x.lo<4/\0<=lo/\lo<=hi/\hi<=20):=⟨Vu.time,Vu.wide,hs⟩
 obtain⟨a2,c2,a3,c3,a4,c4,rfl⟩:=hb.ls;have D5:=HB.out.zR;obtain⟨blk,off,rfl⟩:∃blk off,a2=some ⟨blk,off,none⟩:=D5.first (by omega);obtain⟨L,JE,tO,hints⟩:=D5.raw;have Ma:L.length=b.parts.length:=by rw[<-JE,List.length_map]
 rw[Ma]at tO;have zS:Hid (L.map Prod.fst=b.parts/\L.length=b.parts.length/\(∀x∈L,ao w x.2 x.1.fits)/\Raw w (.slice (some ⟨blk,off,none⟩) b.parts.length c2) b.parts.length 6 (L.flatMap bO)):=⟨JE,Ma,hints,tO⟩
 obtain⟨xv,Ry⟩:∃xv,L[i]?=some (x,xv):=by
  have h1:(L.map Prod.fst)[i]?=some x:=by rw[JE];exact hx
  rw[List.getElem?_map]at h1;obtain⟨y,hy,rfl⟩:=Option.map_eq_some_iff.1 h1;exact⟨y.2,hy⟩
 have P2:Hid (L[i]?=some (x,xv)):=Ry
 have HCL:Hid (∀X,Below w.heap.size w X->X.cell? ⟨blk,off+i*6+3,none⟩=some (.int .i64 x.lo)/\X.cell? ⟨blk,off+i*6+4,none⟩=some (.int .i64 x.hi)):=fun X hX=>by
  have h1:=tO.news.2.2 X hX (i*6+3) _ ((fU dF L i 3 _ Ry (by omega)).trans rfl);have h2:=tO.news.2.2 X hX (i*6+4) _ ((fU dF L i 4 _ Ry (by omega)).trans rfl);have e:∀j,(⟨blk,off,none⟩:Addr).add j=⟨blk,off+j,none⟩:=fun j=>by unfold Addr.add;split<;>simp_all
  rw[e]at h1 h2;simp only[<-Nat.add_assoc]at h1 h2;exact⟨h1,h2⟩
 obtain⟨A1,dv⟩:∃A,w.alloc (.cells #[.int .i64 b.am,.int .i64 b.places,.slice (some ⟨blk,off,none⟩) b.parts.length c2,.slice a3 b.apart.length c3,.slice a4 b.aa.length c4] 26)=A:=⟨_,rfl⟩
 obtain⟨A2,eB⟩:∃A,A1.alloc (.cells #[.int .i64 lo,.int .i64 hi] 31)=A:=⟨_,rfl⟩
 obtain⟨A3,pE⟩:∃A,A2.alloc (.cells jm 26)=A:=⟨_,rfl⟩
 have jj:=fk dv;have nk:=fk eB;rw[jj]at nk;have B1:Hid (aJ A3 w.heap.size 26 #[.int .i64 b.am,.int .i64 b.places,.slice (some ⟨blk,off,none⟩) b.parts.length c2,.slice a3 b.apart.length c3,.slice a4 b.aa.length c4]):=(bG pE).box ((bG eB).box (dh dv) (by simp)) (by simp);have B2:Hid (aJ A3 (w.heap.size+1) 31 #[.int .i64 lo,.int .i64 hi]):=by have:=(bG pE).box (dh eB) (by simp);rw[jj]at this;exact this
 have B3:Hid (aJ A3 (w.heap.size+1+1) 26 jm):=by have:=dh pE;rw[nk]at this;exact this
 have HW:Hid (Below w.heap.size w A3):=((bG dv).trans' ((bG eB).trans' (bG pE))).below (by simp) (Nat.le_refl _);have z0:A3.cell? ⟨w.heap.size,0,none⟩=some (.int .i64 b.am):=B1.out.cell 0 rfl;have z1:A3.cell? ⟨w.heap.size,1,none⟩=some (.int .i64 b.places):=B1.out.cell 1 rfl;have z2:A3.cell? ⟨w.heap.size,2,none⟩=some (.slice (some ⟨blk,off,none⟩) b.parts.length c2):=B1.out.cell 2 rfl;have z3:A3.cell? ⟨w.heap.size,3,none⟩=some (.slice a3 b.apart.length c3):=B1.out.cell 3 rfl;have z4:A3.cell? ⟨w.heap.size,4,none⟩=some (.slice a4 b.aa.length c4):=B1.out.cell 4 rfl;have XL:=li A3 _ b (HB.out.later (Kp.of HW.out)) hv (HC.out.later HW.out);have hi2:(i:Int)<(b.parts.length:Int):=by omega
 have jn:=kZ lo hi 0 20 21 (by omega);clear hb hv hc hx Vu hs D5 JE tO hints Ma Ry;go_enter ZF26,Tryz.ntmps26
 go_wp2_with fail
 refine XL.mono ?_;rintro e w1 ⟨⟨r,rfl,rfl⟩,cW⟩;have kB:Hid (Below A3.heap.size A3 w1):=cW;have BF:Hid (Below w.heap.size w w1):=HW.out.trans (cW.mono HW.out.size);clear cW XL z0 z1 z2 z3 z4 dv eB pE jj nk;have D1:Hid (aJ w1 w.heap.size 26 #[.int .i64 b.am,.int .i64 b.places,.slice (some ⟨blk,off,none⟩) b.parts.length c2,.slice a3 b.apart.length c3,.slice a4 b.aa.length c4]):=B1.out.below kB.out B1.out.lt;have D2:Hid (aJ w1 (w.heap.size+1) 31 #[.int .i64 lo,.int .i64 hi]):=B2.out.below kB.out B2.out.lt;have D3:Hid (aJ w1 (w.heap.size+1+1) 26 jm):=B3.out.below kB.out B3.out.lt
 have HS:Hid (∀X:World,Below w1.heap.size w1 X->(X.cell? ⟨w.heap.size,0,none⟩=some (.int .i64 b.am)/\X.cell? ⟨w.heap.size,1,none⟩=some (.int .i64 b.places)/\X.cell? ⟨w.heap.size,2,none⟩=some (.slice (some ⟨blk,off,none⟩) b.parts.length c2)/\X.cell? ⟨w.heap.size,3,none⟩=some (.slice a3 b.apart.length c3)/\X.cell? ⟨w.heap.size,4,none⟩=some (.slice a4 b.aa.length c4))/\Below w1.heap.size w1 X):=fun X hX=>by
  have BX:=D1.out.below hX D1.out.lt;exact⟨⟨BX.cell 0 rfl,BX.cell 1 rfl,BX.cell 2 rfl,BX.cell 3 rfl,BX.cell 4 rfl⟩,hX⟩
 clear B1 B2 B3 kB HW;go_wp2_with fail
 go_region_held3 (fun X:World=>(X.cell? ⟨w.heap.size,0,none⟩=some (.int .i64 b.am)/\X.cell? ⟨w.heap.size,1,none⟩=some (.int .i64 b.places)/\X.cell? ⟨w.heap.size,2,none⟩=some (.slice (some ⟨blk,off,none⟩) b.parts.length c2)/\X.cell? ⟨w.heap.size,3,none⟩=some (.slice a3 b.apart.length c3)/\X.cell? ⟨w.heap.size,4,none⟩=some (.slice a4 b.aa.length c4))/\Below w1.heap.size w1 X)
  (first
    |with_reducible exact HS.out _ ug.out
    |with_reducible exact HS.out _ jM.out
    |exact HS.out _ (Below.drewN (Below.refl w1.heap.size w1) 1)
    |fail)
  (first
    |(go_at_call 67
      refine(vY _ _).mono ?_;rintro e w2 ⟨⟨gk,rfl,PR,Fg⟩,iN⟩;have jM:Hid (Below w1.heap.size w1 w2):=(Below.drewN (Below.refl w1.heap.size w1) 1).trans iN;have MX:Hid (w2.cell? ⟨gk,0,none⟩=some (.int .i64 i)):=PR;clear PR Fg iN)
    |(go_at_call 103
      refine(rz w2 _ b i gk (HB.out.later (Kp.of (BF.out.trans (jM.out.mono BF.out.size)))) HV.out ⟨by omega,hi2⟩ MX.out).mono ?_;rintro e w3 ⟨rfl,Hl⟩;have ug:Hid (Below w1.heap.size w1 w3):=jM.out.trans (Hl.mono jM.out.size);clear Hl))
 have RA:Hid (Below w.heap.size w w3):=BF.out.trans (ug.out.mono BF.out.size);have E1:Hid (aJ w3 w.heap.size 26 #[.int .i64 b.am,.int .i64 b.places,.slice (some ⟨blk,off,none⟩) b.parts.length c2,.slice a3 b.apart.length c3,.slice a4 b.aa.length c4]):=D1.out.below ug.out D1.out.lt;have E2:Hid (aJ w3 (w.heap.size+1) 31 #[.int .i64 lo,.int .i64 hi]):=D2.out.below ug.out D2.out.lt;have E3:Hid (aJ w3 (w.heap.size+1+1) 26 jm):=D3.out.below ug.out D3.out.lt;obtain⟨X4,XM⟩:∃A,w3.alloc (.cells #[.int .i64 lo,.int .i64 hi] 31)=A:=⟨_,rfl⟩
 obtain⟨X5,RB⟩:∃A,X4.alloc (.cells #[.int .i64 x.lo,.int .i64 x.hi] 31)=A:=⟨_,rfl⟩
 obtain⟨nl,yR⟩:∃nl,max x.lo lo=nl:=⟨_,rfl⟩
 obtain⟨nh,J6⟩:∃nh,min x.hi hi=nh:=⟨_,rfl⟩
 have P5:Hid (max x.lo lo=nl/\min x.hi hi=nh):=⟨yR,J6⟩
 rw[yR,J6];obtain⟨X6,XN⟩:∃A,X5.alloc (.cells #[.int .i64 nl,.int .i64 nh] 31)=A:=⟨_,rfl⟩
 have k4:=bG XM;have k5:=bG RB;have k6:=bG XN;have s4:=fk XM;have s5:=fk RB;have F1:Hid (aJ X6 w.heap.size 26 #[.int .i64 b.am,.int .i64 b.places,.slice (some ⟨blk,off,none⟩) b.parts.length c2,.slice a3 b.apart.length c3,.slice a4 b.aa.length c4]):=(k4.trans' (k5.trans' k6)).box E1.out (by simp);have F2:Hid (aJ X6 X5.heap.size 31 #[.int .i64 nl,.int .i64 nh]):=dh XN;have F3:Hid (aJ X6 (w.heap.size+1+1) 26 jm):=(k4.trans' (k5.trans' k6)).box E3.out (by simp);have P6:Hid (Below w.heap.size w X6):=RA.out.trans ((k4.trans' (k5.trans' k6)).below (by simp) RA.out.size);have y0:w3.cell? ⟨w.heap.size+1,0,none⟩=some (.int .i64 lo):=E2.out.cell 0 rfl;have y1:w3.cell? ⟨w.heap.size+1,1,none⟩=some (.int .i64 hi):=E2.out.cell 1 rfl;have y2:X4.cell? ⟨w.heap.size,2,none⟩=some (.slice (some ⟨blk,off,none⟩) b.parts.length c2):=(k4.box E1.out (by simp)).cell 2 rfl;have hc4:=HCL.out X4 (RA.out.trans (k4.below (by simp) RA.out.size));obtain⟨q3,q4⟩:=hc4;have v0:X5.cell? ⟨w.heap.size+1,0,none⟩=some (.int .i64 lo):=((k4.trans' k5).box E2.out (by simp)).cell 0 rfl;have v1:X5.cell? ⟨w.heap.size+1,1,none⟩=some (.int .i64 hi):=((k4.trans' k5).box E2.out (by simp)).cell 1 rfl;have v2:X5.cell? ⟨X4.heap.size,0,none⟩=some (.int .i64 x.lo):=(dh RB).cell 0 rfl;have v3:X5.cell? ⟨X4.heap.size,1,none⟩=some (.int .i64 x.hi):=(dh RB).cell 1 rfl;have t0:X6.cell? ⟨X5.heap.size,0,none⟩=some (.int .i64 nl):=F2.out.cell 0 rfl;have t1:X6.cell? ⟨X5.heap.size,1,none⟩=some (.int .i64 nh):=F2.out.cell 1 rfl
 have Vv:Hid ((0<=nl/\nh<=20)/\(nl<=nh->nh-nl<4)):=by
  have:=HT.out;have:=P5.out;exact⟨⟨by omega,by omega⟩,fun h=>by omega⟩
 have XO:Hid (0<=lo/\lo<=hi/\hi<=20/\hi-lo<21):=by have:=HT.out;exact⟨by omega,by omega,by omega,by omega⟩
 have hL3:Hid (w.heap.size+1+1<w3.heap.size/\X5.heap.size=w3.heap.size+1+1):=⟨E3.out.lt,by omega⟩
 clear k4 k5 k6 s4 s5 D1 D2 D3 jM ug HS MX;by_cases ap:nh<nl
 .obtain⟨⟨o0,o1,o2,o3,o4⟩,f0,f1,f2,f3,f4⟩:=wd F3.out;have d0:=F3.out.same (i:=0) (v:=.int .i64 0) rfl;have d1:=F3.out.same (i:=1) (v:=.int .i64 0) rfl;have d2:=F3.out.same (i:=2) (v:=.slice none 0 0) rfl;have d3:=F3.out.same (i:=3) (v:=.slice none 0 0) rfl;have d4:=F3.out.same (i:=4) (v:=.slice none 0 0) rfl;go_wp2_with(go_at_call 70;refine(jn _).mono ?_;rintro e w4 ⟨r,rfl,hr,rfl⟩;obtain rfl:r=true:=hr.2 XO.out)
  refine bodyPost_ret (v:=.tuple #[.agg jm,.int .i64 9]) ?_ rfl (by rw[P5.out.1,P5.out.2];exact⟨⟨_,_,_,_,_,_,_,_,_,_,_,_,rfl,.inl ⟨.inl ap,rfl,rfl⟩⟩,P6.out⟩);rw[results_cell_tmp rfl];go_simp
 .have hle:nl<=nh:=by omega
  have u2:X6.cell? ⟨w.heap.size,2,none⟩=some (.slice (some ⟨blk,off,none⟩) b.parts.length c2):=F1.out.cell 2 rfl
  go_wp2_with(first
   |(go_at_call 70;refine(jn _).mono ?_;rintro e w4 ⟨r,rfl,hr,rfl⟩;obtain rfl:r=true:=hr.2 XO.out)
   |(go_at_call 71
     refine(nI X6 (some ⟨blk,off,none⟩) b.parts.length c2 (L.flatMap bO) (by omega) (zS.out.2.2.2.later (Kp.of P6.out))).mono ?_;rintro e w7 ⟨⟨v',rfl,ho⟩,yC⟩;obtain⟨g7,k7,rfl,MO,Jm,_,Mc⟩:=dM ho (by omega);have hgn:w.heap.size+1+1<g7/\X5.heap.size<g7:=(by have:=P6.out.size;have:=F2.out.lt;have:=F3.out.lt;omega)
     have G1:aJ w7 w.heap.size 26 #[.int .i64 b.am,.int .i64 b.places,.slice (some ⟨blk,off,none⟩) b.parts.length c2,.slice a3 b.apart.length c3,.slice a4 b.aa.length c4]:=F1.out.below yC F1.out.lt;have G2:=F2.out.below yC F2.out.lt;have G3:=F3.out.below yC F3.out.lt;obtain⟨X8,XP⟩:∃W,w7.setCell ⟨w.heap.size,2,none⟩ (.slice (some ⟨g7,0,none⟩) b.parts.length k7)=W:=⟨_,rfl⟩
     have wA:aj [w.heap.size] w7 X8:=(by rw[<-XP];exact aj.set _ (by simp) _)
     have I1:aJ X8 w.heap.size 26 #[.int .i64 b.am,.int .i64 b.places,.slice (some ⟨g7,0,none⟩) b.parts.length k7,.slice a3 b.apart.length c3,.slice a4 b.aa.length c4]:=(by rw[<-XP];exact G1.set 2 _)
     have I2:=wA.box G2 (by have:=hL3.out;simp;omega);have I3:=wA.box G3 (by simp;omega);have M0:X8.ownsRow X6.heap.size 34 6 (.slice (some ⟨g7,0,none⟩) b.parts.length k7) b.parts.length (L.flatMap bO):=bT ho (fun k hk=>by cases hk;exact wA.block g7 Jm (by simp;omega));obtain⟨X9,hX9⟩:∃W,(X8.setCell ⟨g7,i*6+3,none⟩ (.int .i64 nl)).setCell ⟨g7,i*6+4,none⟩ (.int .i64 nh)=W:=⟨_,rfl⟩
     have bF:=v8 M0 P2.out nl nh;rw[hX9]at bF;have J1:aJ X9 w.heap.size 26 #[.int .i64 b.am,.int .i64 b.places,.slice (some ⟨g7,0,none⟩) b.parts.length k7,.slice a3 b.apart.length c3,.slice a4 b.aa.length c4]:=bF.2.box I1 (by simp;omega);have J3:Hid (aJ X9 (w.heap.size+1+1) 26 jm):=(bF.2.box I3 (by simp;omega):aJ X9 (w.heap.size+1+1) 26 jm)
     have b7:Below w.heap.size w w7:=P6.out.trans (yC.mono P6.out.size);have b8:Below w.heap.size w X8:=b7.trans (wA.below (by simp) b7.size);have ED:Hid (Below w.heap.size w X9):=(b8.trans (bF.2.below (by simp;omega) b8.size):Below w.heap.size w X9)
     have HP9:Hid (bB X9 (.slice (some ⟨g7,0,none⟩) b.parts.length k7) (retime b.parts i nl nh)):=(by
      have h1:(L.set i ({x with lo:=nl,hi:=nh},xv)).length=b.parts.length:=by rw[List.length_set];exact zS.out.2.1
      have h0:=bF.1;rw[<-h1]at h0
      have h2:=bB.lu h0 (fun y hy=>by
       rcases List.mem_or_eq_of_mem_set hy with h3|rfl
       .exact(zS.out.2.2.1 y h3).later (Kp.of ED.out)
       .exact(zS.out.2.2.1 (x,xv) (List.mem_of_getElem? P2.out)).later (Kp.of ED.out))
      rw[v6 nl nh P2.out,zS.out.1,h1]at h2;exact h2:bB X9 (.slice (some ⟨g7,0,none⟩) b.parts.length k7) (retime b.parts i nl nh))
     have m2:=G1.cell 2 rfl;have m3:=G1.cr 2;have XQ:=I1.cell 2 rfl;have XR:=I2.cell 0 rfl;have XS:=I2.cell 1 rfl;have r3:=dG M0 P2.out zS.out.2.1 3 (by omega) rfl;have r4:=dG M0 P2.out zS.out.2.1 4 (by omega) rfl;have r5:X8.frozen? ⟨g7,i*6+3,none⟩=false:=M0.frozenAt _;have r6:X8.frozen? ⟨g7,i*6+4,none⟩=false:=M0.frozenAt _;have l0:X9.cell? ⟨w.heap.size,0,none⟩=some (.int .i64 b.am):=J1.cell 0 rfl;have l1:X9.cell? ⟨w.heap.size,1,none⟩=some (.int .i64 b.places):=J1.cell 1 rfl;have l2:X9.cell? ⟨w.heap.size,2,none⟩=some (.slice (some ⟨g7,0,none⟩) b.parts.length k7):=J1.cell 2 rfl;have l3:X9.cell? ⟨w.heap.size,3,none⟩=some (.slice a3 b.apart.length c3):=J1.cell 3 rfl;have l4:X9.cell? ⟨w.heap.size,4,none⟩=some (.slice a4 b.aa.length c4):=J1.cell 4 rfl
     have PV:Hid (ar X9 (.agg #[.int .i64 b.am,.int .i64 b.places,.slice (some ⟨g7,0,none⟩) b.parts.length k7,.slice a3 b.apart.length c3,.slice a4 b.aa.length c4]) (bV b i nl nh)):=(by
      obtain⟨_,_,_,e,_,h3,h4⟩:=HB.out;simp only[Value.agg.injEq,Array.mk.injEq,List.cons.injEq,true_and,and_true]at e;obtain⟨_,rfl,rfl⟩:=e;exact⟨_,_,_,rfl,HP9.out,h3.later (Kp.of ED.out),h4.later (Kp.of ED.out)⟩)
     have hA:=yE X9 _ (bV b i nl nh) PV.out (nJ HV.out i ⟨Vv.out.1.1,hle,Vv.out.1.2⟩ (Vv.out.2 hle)) (HC.out.later ED.out);clear bF ho M0 yC wA G1 G2 G3 I1 I2 I3 J1 b7 b8 u2 t0 t1 v0 v1 v2 v3 y0 y1 y2 q3 q4 yR J6)
   |(go_at_call 72
     refine hA.mono ?_;rintro e Ji ⟨⟨x0,x1,p2,n2,k2,p3,n3,k3,p4,n4,k4,s,rfl,BY⟩,yJ⟩;have Hw:Hid (_\/_):=BY;have Ib:Hid (Below X9.heap.size X9 Ji):=yJ;have P7:Hid (Below w.heap.size w Ji):=ED.out.trans (yJ.mono ED.out.size);have K3:Hid (aJ Ji (w.heap.size+1+1) 26 jm):=J3.out.below yJ J3.out.lt;obtain⟨⟨o0,o1,o2,o3,o4⟩,f0,f1,f2,f3,f4⟩:=wd K3.out;clear BY yJ hA l0 l1 l2 l3 l4))
  obtain⟨WF,qq⟩:∃V,((((Ji.setCell ⟨w.heap.size+1+1,0,none⟩ (.int .i64 x0)).setCell ⟨w.heap.size+1+1,1,none⟩ (.int .i64 x1)).setCell ⟨w.heap.size+1+1,2,none⟩ (.slice p2 n2 k2)).setCell ⟨w.heap.size+1+1,3,none⟩ (.slice p3 n3 k3)).setCell ⟨w.heap.size+1+1,4,none⟩ (.slice p4 n4 k4)=V:=⟨_,rfl⟩
  obtain⟨pF,zT⟩:=tN (.int .i64 x0) (.int .i64 x1) (.slice p2 n2 k2) (.slice p3 n3 k3) (.slice p4 n4 k4) K3.out;rw[qq]at pF zT⊢;have HKF:Hid (aj [w.heap.size+1+1] Ji WF):=zT;have lq:Hid (Below w.heap.size w WF):=P7.out.trans (zT.below (by simp;omega) P7.out.size);have w0:WF.cell? ⟨w.heap.size+1+1,0,none⟩=some (.int .i64 x0):=pF.cell 0 rfl;have eO:WF.cell? ⟨w.heap.size+1+1,1,none⟩=some (.int .i64 x1):=pF.cell 1 rfl;have JQ:WF.cell? ⟨w.heap.size+1+1,2,none⟩=some (.slice p2 n2 k2):=pF.cell 2 rfl;have Sj:WF.cell? ⟨w.heap.size+1+1,3,none⟩=some (.slice p3 n3 k3):=pF.cell 3 rfl;have w4':WF.cell? ⟨w.heap.size+1+1,4,none⟩=some (.slice p4 n4 k4):=pF.cell 4 rfl;have PT:Hid (w.heap.size+1+1<X9.heap.size/\w.heap.size<=X9.heap.size):=⟨J3.out.lt,ED.out.size⟩
  clear pF zT qq o0 o1 o2 o3 o4 f0 f1 f2 f3 f4
  refine bodyPost_ret (v:=.tuple #[.agg #[.int .i64 x0,.int .i64 x1,.slice p2 n2 k2,.slice p3 n3 k3,.slice p4 n4 k4],.int .i64 s]) ?_ rfl
   (by
     rw[P5.out.1,P5.out.2];refine⟨⟨_,_,_,_,_,_,_,_,_,_,_,_,rfl,Hw.out.imp (fun⟨h1,h2,h3⟩=>⟨.inr h1,h2,h3⟩) (fun⟨h1,h2,h3⟩=>⟨hle,h1,h2,fun X O hO hk=>h3 X ((w.heap.size+1+1)::O) (fun o ho=>?_) ((HKF.out.mono (by simp)).trans' (hk.mono fun o ho=>.inl (by simp[ho])))⟩)⟩,lq.out⟩;rcases List.mem_cons.1 ho with rfl|ho
     .exact PT.out.1
     .exact Nat.lt_of_lt_of_le (hO o ho) PT.out.2)
  rw[results_cell_tmp rfl];go_simp
end Go.Proofs.Cz
