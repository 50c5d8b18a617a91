/- A part. Conditions: none. -/
import Derived.Test.YthmokljbbkcjdaaGreatDoorT37
import Derived.Shelf.Sort.Plain
import Derived.Shelf.Slices.CompactI
import Derived.Sort.OwnSortedInts
set_option linter.all false
set_option maxHeartbeats 8000000
set_option maxRecDepth 100000
namespace Go.Proofs.Cz
open Go.RowKit Go.Shelf
variable {B cap g:Nat} {w:World}
def L6:Go.Shelf.Ren:=⟨fun|189=>68|125=>105|257=>104|128=>126|129=>127|294=>117|295=>118|296=>119|297=>120|298=>121|299=>122|216=>123|300=>124|301=>125|328=>134|329=>135|330=>136|331=>137|332=>138|215=>130|343=>140|n=>n,fun|28=>32|3=>3|46=>147|0=>0|51=>164|53=>166|4=>4|183=>158|182=>157|131=>101|5=>5|9=>9|218=>171|222=>175|228=>178|229=>179|n=>n,fun n=>n⟩
theorem IZ:Lays.n189 ZP L6 where
 mixed:=by kernel_rfl
 f125:=ZF105.trans (congrArg some (by kernel_rfl))
 f128:=ZF126.trans (congrArg some (by kernel_rfl))
 f129:=ZF127.trans (congrArg some (by kernel_rfl))
 f189:=ZF68.trans (congrArg some (by kernel_rfl))
 f215:=ZF130.trans (congrArg some (by kernel_rfl))
 f216:=ZF123.trans (congrArg some (by kernel_rfl))
 f257:=ZF104.trans (congrArg some (by kernel_rfl))
 f294:=ZF117.trans (congrArg some (by kernel_rfl))
 f295:=ZF118.trans (congrArg some (by kernel_rfl))
 f296:=ZF119.trans (congrArg some (by kernel_rfl))
 f297:=ZF120.trans (congrArg some (by kernel_rfl))
 f298:=ZF121.trans (congrArg some (by kernel_rfl))
 f299:=ZF122.trans (congrArg some (by kernel_rfl))
 f300:=ZF124.trans (congrArg some (by kernel_rfl))
 f301:=ZF125.trans (congrArg some (by kernel_rfl))
 f328:=ZF134.trans (congrArg some (by kernel_rfl))
 f329:=ZF135.trans (congrArg some (by kernel_rfl))
 f330:=ZF136.trans (congrArg some (by kernel_rfl))
 f331:=ZF137.trans (congrArg some (by kernel_rfl))
 f332:=ZF138.trans (congrArg some (by kernel_rfl))
 f343:=ZF140.trans (congrArg some (by kernel_rfl))
 t0:=(Tz.under _).trans Tryz.underlying0
 a0:=fun w=>(Tz.dA 0 w).trans (Tryz.isAgg0 w)
 z0:=fun w=>(Tz.cS 0 w).trans (Tryz.sizeOf0 w)
 v0:=fun w=>(Tz.cR 0 w).trans (Tryz.zeroValue0 w)
 t3:=(Tz.under _).trans Tryz.underlying3
 a3:=fun w=>(Tz.dA 3 w).trans (Tryz.isAgg3 w)
 z3:=fun w=>(Tz.cS 3 w).trans (Tryz.sizeOf3 w)
 v3:=fun w=>(Tz.cR 3 w).trans (Tryz.zeroValue3 w)
 t4:=(Tz.under _).trans Tryz.underlying4
 a4:=fun w=>(Tz.dA 4 w).trans (Tryz.isAgg4 w)
 z4:=fun w=>(Tz.cS 4 w).trans (Tryz.sizeOf4 w)
 v4:=fun w=>(Tz.cR 4 w).trans (Tryz.zeroValue4 w)
 t5:=(Tz.under _).trans Tryz.underlying5
 a5:=fun w=>(Tz.dA 5 w).trans (Tryz.isAgg5 w)
 z5:=fun w=>(Tz.cS 5 w).trans (Tryz.sizeOf5 w)
 v5:=fun w=>(Tz.cR 5 w).trans (Tryz.zeroValue5 w)
 t9:=(Tz.under _).trans Tryz.underlying9
 a9:=fun w=>(Tz.dA 9 w).trans (Tryz.isAgg9 w)
 z9:=fun w=>(Tz.cS 9 w).trans (Tryz.sizeOf9 w)
 v9:=fun w=>(Tz.cR 9 w).trans (Tryz.zeroValue9 w)
 t28:=(Tz.under _).trans Tryz.underlying32
 a28:=fun w=>(Tz.dA 32 w).trans (Tryz.isAgg32 w)
 z28:=fun w=>(Tz.cS 32 w).trans (Tryz.sizeOf32 w)
 v28:=fun w=>(Tz.cR 32 w).trans (Tryz.zeroValue32 w)
 t46:=(Tz.under _).trans Tryz.underlying147
 a46:=fun w=>(Tz.dA 147 w).trans (Tryz.isAgg147 w)
 z46:=fun w=>(Tz.cS 147 w).trans (Tryz.sizeOf147 w)
 v46:=fun w=>(Tz.cR 147 w).trans (Tryz.zeroValue147 w)
 t51:=(Tz.under _).trans Tryz.underlying164
 a51:=fun w=>(Tz.dA 164 w).trans (Tryz.isAgg164 w)
 z51:=fun w=>(Tz.cS 164 w).trans (Tryz.sizeOf164 w)
 v51:=fun w=>(Tz.cR 164 w).trans (Tryz.zeroValue164 w)
 t53:=(Tz.under _).trans Tryz.underlying166
 a53:=fun w=>(Tz.dA 166 w).trans (Tryz.isAgg166 w)
 z53:=fun w=>(Tz.cS 166 w).trans (Tryz.sizeOf166 w)
 v53:=fun w=>(Tz.cR 166 w).trans (Tryz.zeroValue166 w)
 t131:=(Tz.under _).trans Tryz.underlying101
 a131:=fun w=>(Tz.dA 101 w).trans (Tryz.isAgg101 w)
 z131:=fun w=>(Tz.cS 101 w).trans (Tryz.sizeOf101 w)
 v131:=fun w=>(Tz.cR 101 w).trans (Tryz.zeroValue101 w)
 t182:=(Tz.under _).trans Tryz.underlying157
 a182:=fun w=>(Tz.dA 157 w).trans (Tryz.isAgg157 w)
 z182:=fun w=>(Tz.cS 157 w).trans (Tryz.sizeOf157 w)
 v182:=fun w=>(Tz.cR 157 w).trans (Tryz.zeroValue157 w)
 t183:=(Tz.under _).trans Tryz.underlying158
 a183:=fun w=>(Tz.dA 158 w).trans (Tryz.isAgg158 w)
 z183:=fun w=>(Tz.cS 158 w).trans (Tryz.sizeOf158 w)
 v183:=fun w=>(Tz.cR 158 w).trans (Tryz.zeroValue158 w)
 t218:=(Tz.under _).trans Tryz.underlying171
 a218:=fun w=>(Tz.dA 171 w).trans (Tryz.isAgg171 w)
 z218:=fun w=>(Tz.cS 171 w).trans (Tryz.sizeOf171 w)
 v218:=fun w=>(Tz.cR 171 w).trans (Tryz.zeroValue171 w)
 t222:=(Tz.under _).trans Tryz.underlying175
 a222:=fun w=>(Tz.dA 175 w).trans (Tryz.isAgg175 w)
 z222:=fun w=>(Tz.cS 175 w).trans (Tryz.sizeOf175 w)
 v222:=fun w=>(Tz.cR 175 w).trans (Tryz.zeroValue175 w)
 t228:=(Tz.under _).trans Tryz.underlying178
 a228:=fun w=>(Tz.dA 178 w).trans (Tryz.isAgg178 w)
 z228:=fun w=>(Tz.cS 178 w).trans (Tryz.sizeOf178 w)
 v228:=fun w=>(Tz.cR 178 w).trans (Tryz.zeroValue178 w)
 t229:=(Tz.under _).trans Tryz.underlying179
 a229:=fun w=>(Tz.dA 179 w).trans (Tryz.isAgg179 w)
 z229:=fun w=>(Tz.cS 179 w).trans (Tryz.sizeOf179 w)
 v229:=fun w=>(Tz.cR 179 w).trans (Tryz.zeroValue179 w)
def Cg:Go.Shelf.Ren:=⟨fun|20=>69|n=>n,fun|22=>32|3=>3|4=>4|0=>0|n=>n,fun n=>n⟩
theorem z8:Lays2.n20 ZP Cg where
 mixed:=by kernel_rfl
 f20:=ZF69.trans (congrArg some (by kernel_rfl))
 t0:=(Tz.under _).trans Tryz.underlying0
 a0:=fun w=>(Tz.dA 0 w).trans (Tryz.isAgg0 w)
 z0:=fun w=>(Tz.cS 0 w).trans (Tryz.sizeOf0 w)
 v0:=fun w=>(Tz.cR 0 w).trans (Tryz.zeroValue0 w)
 t3:=(Tz.under _).trans Tryz.underlying3
 a3:=fun w=>(Tz.dA 3 w).trans (Tryz.isAgg3 w)
 z3:=fun w=>(Tz.cS 3 w).trans (Tryz.sizeOf3 w)
 v3:=fun w=>(Tz.cR 3 w).trans (Tryz.zeroValue3 w)
 t4:=(Tz.under _).trans Tryz.underlying4
 a4:=fun w=>(Tz.dA 4 w).trans (Tryz.isAgg4 w)
 z4:=fun w=>(Tz.cS 4 w).trans (Tryz.sizeOf4 w)
 v4:=fun w=>(Tz.cR 4 w).trans (Tryz.zeroValue4 w)
 t22:=(Tz.under _).trans Tryz.underlying32
 a22:=fun w=>(Tz.dA 32 w).trans (Tryz.isAgg32 w)
 z22:=fun w=>(Tz.cS 32 w).trans (Tryz.sizeOf32 w)
 v22:=fun w=>(Tz.cR 32 w).trans (Tryz.zeroValue32 w)
 i3:=by kernel_rfl
def mS (l:List Int):List Int:=l.mergeSort fun x y=>decide (x<=y)
theorem j7 (l:List Int):(mS l).length=l.length:=List.length_mergeSort l
theorem oO (d:Array Int):∀m,(Lib.compactUpTo d m).length<=m
 |0=>by simp[Lib.compactUpTo]
 |m+1=>by
  have:=oO d m;rw[Lib.compactUpTo_succ,List.length_append];split<;>simp<;>omega
theorem sN (l:List Int):(Lib.compact l).length<=l.length:=oO _ _
theorem xq {e:TypeId} {n k:Nat} {xs:List Value} (h:w.ownsRow B e 1 (.slice (some ⟨g,0,none⟩) n cap) n xs) (hk:k<=n):w.ownsRow B e 1 (.slice (some ⟨g,0,none⟩) k cap) k (xs.take k):=by
 obtain⟨h1,⟨h2,_⟩|⟨g',iT,cur,h2,h3,h4,h5,h6,h7,h8⟩⟩:=h
 .cases h2
 .cases h2;refine⟨by simp;omega,.inr ⟨g,cap,cur,rfl,h3,h4,by omega,h6,h7,?_⟩⟩;rw[<-h8,List.take_take];congr 1;omega
theorem vb {l:List Int} (h:w.ownsRow B 3 1 (.slice (some ⟨g,0,none⟩) l.length cap) l.length (l.map (Value.int .i64))):Sort.Holds (Value.int .i64) w g 0 l.toArray:=by
 obtain⟨h1,⟨h2,_⟩|⟨g',iT,cur,h2,h3,h4,h5,h6,h7,h8⟩⟩:=h
 .cases h2
 .cases h2;rw[Nat.mul_one]at h8;exact holds_of_blockI h4 h8
theorem I0 (w:World) (B:Nat) (v:Value) (l:List Int) (hl:l.length<=10000) (br:l≠ []) (ho:w.ownsRow B 3 1 v l.length (l.map (Value.int .i64))):
 Calls ZP 68 #[v] w (fun e w'=>e=.returned (.tuple #[])/\w'.ownsRow B 3 1 v l.length ((mS l).map (Value.int .i64))/\w.grownBy w' v.ownBlock):=by
 have fR:0<l.length:=List.length_pos_iff.2 br;have CD:=ho;obtain⟨h1,⟨h2,h0⟩|⟨g,cap,cur,rfl,h3,h4,h5,h6,h7,h8⟩⟩:=ho
 .omega
 refine(Any.slices_Sort_int IZ g 0 cap l w (vb CD) (Array.getElem?_eq_some_iff.1 h4).1 (by omega)).mono ?_;rintro e w' ⟨rfl,n,os,rfl⟩;exact⟨rfl,ownsRow_sortedI (j7 l) h3 h4 h5 h6 h7,grownBy_sortedI _⟩
theorem Aa (w:World) (B:Nat) (v:Value) (l:List Int) (hl:l.length<=10000) (br:l≠ []) (ho:w.ownsRow B 3 1 v l.length (l.map (Value.int .i64))):
 Calls ZP 69 #[v] w (fun e w'=>(∃v',e=.returned v'/\w'.ownsRow B 3 1 v' (Lib.compact l).length ((Lib.compact l).map (Value.int .i64)))/\w.grownBy w' v.ownBlock):=by
 have fR:0<l.length:=List.length_pos_iff.2 br;have CD:=ho;obtain⟨h1,⟨h2,h0⟩|⟨g,cap,cur,rfl,h3,h4,h5,h6,h7,h8⟩⟩:=ho
 .omega
 refine(Any.slices_Compact_int z8 g 0 cap l w (vb CD) (by omega) h5).mono ?_;rintro e w' ⟨rfl,q,rfl⟩;have hc:(Lib.compact l).length<=l.length:=sN l;have Kk:∀W:World,Sort.grow W #[]=W:=fun W=>by unfold Sort.grow;rw[Array.append_empty]
 have e1:=ownsRow_sortedI (w:=w) (base:=B) (g:=g) (cap:=cap) (n:=q) (os:=#[]) (ss:=l) (ts:=Lib.compact l++List.replicate (l.length-(Lib.compact l).length) 0) (by simp;omega) h3 h4 h5 h6 h7;have e2:=grownBy_sortedI (w:=w) (g:=g) (n:=q) (os:=#[]) (Lib.compact l++List.replicate (l.length-(Lib.compact l).length) 0).toArray;rw[Kk]at e1 e2;have e3:=xq e1 hc;rw[List.map_append,List.take_left' (by simp)]at e3;exact⟨⟨_,rfl,e3⟩,e2⟩
def jy (N:Nat) (m:Nat->Int):Nat:=(Lib.compact (mS (aR N m))).length
theorem Fv (N:Nat) (m:Nat->Int):jy N m<=N:=by
 have h:=sN (mS (aR N m));rw[j7]at h;unfold jy;simpa [aR]using h
theorem jz (w:World) (v2 v3 v4:Value) (b:av) (N:Nat) (hN:b.places=N) (lT:1<=N/\N<=4) (m:Nat->Int):
 Calls ZP 78 #[.agg #[.int .i64 b.an,.int .i64 b.places,v2,v3,v4],.agg (bD m)] w (dd w (.int .i64 (jy N m))):=by
 obtain⟨A1,bB⟩:=ex1 (w.alloc (.cells #[.int .i64 b.an,.int .i64 b.places,v2,v3,v4] 79));obtain⟨A2,cu⟩:=ex1 (A1.alloc (.cells (bD m) 91));have eS:=snew bB;have B1:=(bnewk bB cu).o;have B2:=(bnew2 cu eS).o;have HW:=wnew2 bB cu;obtain⟨z0,z1,z2,z3,z4⟩:=B1.c5;obtain⟨y0,y1,y2,y3⟩:=B2.c4;have hC:=oM A2 v2 v3 v4 b N hN lT m;have hl:(aR N m).length=N:=by simp[aR]
 have kZ:Hid ((aR N m).length=N/\1<=N/\N<=4):=⟨hl,lT⟩
 have HD:Hid ((Lib.compact (mS (aR N m))).length=jy N m):=rfl;have Yn:=Fv N m;simp only[bD]at cu hC⊢;generalize jy N m=D at*;obtain⟨P,hP⟩:=ex1 (aR N m);rw[hP]at hC kZ HD;clear B1 B2 hN hl hP;go_enter ZF78,Tryz.ntmps78
 go_wp2_with(first
  |(go_at_call 80
    refine hC.mono ?_;rintro e w1 ⟨⟨v,rfl,ho⟩,bN⟩;have HO:Hid (w1.ownsRow w.heap.size 3 1 v P.length (P.map (Value.int .i64))):=ik ho HW.o.size;have dF:=HW.t bN;clear ho bN hC z0 z1 z2 z3 z4 y0 y1 y2 y3)
  |(go_at_call 68
    refine(I0 w1 w.heap.size v P (by have:=kZ.o;omega) (fun e=>by have:=kZ.o;rw[e]at this;simp only[List.length_nil]at this;omega) HO.o).mono ?_;rintro e w2 ⟨rfl,ho,hg⟩;have uM:Hid (w2.ownsRow w.heap.size 3 1 v (mS P).length ((mS P).map (Value.int .i64))):=(by rw[j7];exact ho:w2.ownsRow w.heap.size 3 1 v (mS P).length ((mS P).map (Value.int .i64)))
    have jT:Hid (Below w.heap.size w w2):=Below.grown dF.o hg dF.o.size (fun k hk=>(aE HO.o k hk).1);clear ho hg)
  |(go_at_call 69
    refine(Aa w2 w.heap.size v (mS P) (by rw[j7];have:=kZ.o;omega) (fun e=>by have h1:=j7 P;rw[e]at h1;have h2:=kZ.o;simp only[List.length_nil]at h1;omega) uM.o).mono ?_;rintro e w3 ⟨⟨v',rfl,ho⟩,hg⟩;have jm:Hid (Below w.heap.size w w3):=Below.grown jT.o hg jT.o.size (fun k hk=>(aE uM.o k hk).1);obtain⟨a',c',rfl⟩:=mQ ho;rw[HD.o];clear ho hg))
 go_ret;exact⟨rfl,jm.o⟩
end Go.Proofs.Cz
namespace Go.Proofs.Cz
open Go.RowKit
variable {b:av}
def kR (m t:Nat->Int):Nat->Int
 |0=>0
 |k+1=>wrap64 (kR m t k+t (m k).toNat)
theorem Fw (w:World) (v2 v3 v4:Value) (b:av) (N:Nat) (hN:b.places=N) (lT:N<=4) (m t:Nat->Int) (hm:∀i,i<N->0<=m i/\m i<5):
 Calls ZP 102 #[.agg #[.int .i64 b.an,.int .i64 b.places,v2,v3,v4],.agg (bD m),.agg (tick t)] w (dd w (.int .i64 (kR m t N))):=by
 rw[hN];obtain⟨A1,bB⟩:=ex1 (w.alloc (.cells #[.int .i64 b.an,.int .i64 N,v2,v3,v4] 79));obtain⟨A2,cu⟩:=ex1 (A1.alloc (.cells (bD m) 91));obtain⟨A3,gM⟩:=ex1 (A2.alloc (.cells (tick t) 111));have eS:=snew bB;have kM:=snew2 cu eS
 have b1:aF A3 w.heap.size 79 #[.int .i64 b.an,.int .i64 N,v2,v3,v4]:=by
  rw[<-gM];refine(aa.alloc [] _ _).box ?_ (by simp);rw[<-cu];refine(aa.alloc [] _ _).box ?_ (by simp);rw[<-bB];exact aF.new _ _ _
 have B2:Hid (aF A3 (w.heap.size+1) 91 (bD m)):=by
  rw[<-gM];refine(aa.alloc [] _ _).box ?_ (by simp);rw[<-cu,<-eS];exact aF.new _ _ _
 have B3:=bnew2 gM kM;have HW:=wnew3 bB cu gM;obtain⟨-,z1⟩:=b1.c2;simp only[bD,tick]at cu gM⊢;clear b1 hN;go_enter ZF102,Tryz.ntmps102
 go_wp2
 clear bB cu gM eS kM;go_loop [12,8,7] (fun i _ s=>∃k:Nat,k<=N/\i=.int .i64 k/\s=.int .i64 (kR m t k)) (fun i _ _=>N-(intOf i).toNat)
 case atStart=>exact⟨0,Nat.zero_le _,rfl,rfl⟩
 case round=>
  obtain⟨k,hk,rfl,rfl⟩:=hrel;by_cases aA:k<N
  .have lg:k<4:=by omega
   have c2:A3.cell? ⟨w.heap.size+1,k,none⟩=some (.int .i64 (m k)):=B2.o.cell k (gA lg _);obtain⟨j,hj⟩:∃j:Nat,m k=(j:Int):=⟨(m k).toNat,by have:=(hm k aA).1;omega⟩
   have XG:j<5:=by have:=(hm k aA).2;omega
   rw[hj]at c2;have c3:A3.cell? ⟨w.heap.size+1+1,j,none⟩=some (.int .i64 (t j)):=B3.o.cell j (gN XG _);have HS:Hid (kR m t (k+1)=wrap64 (kR m t k+t j)):=by show wrap64 (kR m t k+t (m k).toNat)=_;rw[hj];simp
   generalize kR m t k=s at*;generalize t j=tj at*;go_wp2
   go_round
   case rel=>exact⟨k+1,by omega,by go_num,by rw[HS.o]⟩
   case measure=>simp[intOf];omega
  .have e:k=N:=by omega
   subst e;go_wp2
   go_ret;exact⟨rfl,HW.o⟩
def ff (N:Nat) (t:Nat->Int) (x:iM):Bool:=decide (x.lo<=kR (ai x.parts) t N)&&decide (kR (ai x.parts) t N<=x.hi)
def bX (b:av) (t:Nat->Int):Bool:=b.ac.all (ff b.places.toNat t)
theorem pY {l:List Int} (hm:b.parts.length<=5) (h:bY b l):∀i,i<b.places.toNat->0<=ai l i/\ai l i<5:=fun i hi=>by
 have hl:=h.len;have e:l[i]?=some (l[i]'(by omega)):=List.getElem?_eq_getElem (by omega);have h1:=h.range i _ (by omega) e;unfold ai;rw[e];simp only[Option.getD_some];omega
theorem Fx (w:World) (v2 v3 v4 vl:Value) (b:av) (x:iM) (g1 g2:Nat) (N:Nat) (hN:b.places=N) (lT:N<=4) (t:Nat->Int) (hx:x.parts.length<=4) (hm:∀i,i<N->0<=ai x.parts i/\ai x.parts i<5)
 (h1:aF w g1 79 #[.int .i64 b.an,.int .i64 b.places,v2,v3,v4]) (h2:aF w g2 111 (tick t)) (hl:az w vl x.parts):
 Calls ZP 132 #[.agg #[vl,.int .i64 x.lo,.int .i64 x.hi],ptr g1,ptr g2] w (cW w fun r=>r=!ff N t x):=by
 obtain⟨la,lc,⟨rfl,ll,lm,ln,lr⟩,le⟩:=hl;have HL:Hid (az w (.slice la x.parts.length lc) x.parts):=⟨la,lc,⟨rfl,ll,lm,ln,lr⟩,le⟩
 clear ll lm ln lr le;obtain⟨A1,bB⟩:=ex1 (w.alloc (.cells #[.slice la x.parts.length lc,.int .i64 x.lo,.int .i64 x.hi] 75));have B1:=(bnew bB).o;have HW:=wnew bB;have C1:aF A1 g1 79 #[.int .i64 b.an,.int .i64 b.places,v2,v3,v4]:=h1.below HW.o h1.lt;have C2:aF A1 g2 111 (tick t):=h2.below HW.o h2.lt;have wD:=C1.lt;have tN:=C2.lt;have zhU:=B1.lt;obtain⟨X0,X1,X2⟩:=B1.a3;obtain⟨Y0,Y1,Y2,Y3,Y4⟩:=C1.a5;obtain⟨Z0,Z1,Z2,Z3,Z4⟩:=C2.a5
 have c64:∀X:am A1,Calls ZP 64 #[.slice la x.parts.length lc] X.1 (fun e iU=>e=.returned (.agg #[.int .i64 (ai x.parts 0),.int .i64 (ai x.parts 1),.int .i64 (ai x.parts 2),.int .i64 (ai x.parts 3)])/\∃Y:am A1,iU=Y.1):=fun X=>
  (gC _ _ _ hx ((HL.o.later (Kp.of HW.o)).later X.kp)).mono fun e w' h=>⟨h.1,X.on h.2⟩
 have zbE:∀X:am A1,Calls ZP 102 #[.agg #[.int .i64 b.an,.int .i64 b.places,v2,v3,v4],.agg #[.int .i64 (ai x.parts 0),.int .i64 (ai x.parts 1),.int .i64 (ai x.parts 2),.int .i64 (ai x.parts 3)],
  .agg #[.int .i64 (t 0),.int .i64 (t 1),.int .i64 (t 2),.int .i64 (t 3),.int .i64 (t 4)]] X.1 (fun e iU=>e=.returned (.int .i64 (kR (ai x.parts) t N))/\∃Y:am A1,iU=Y.1):=fun X=>
  (Fw _ _ _ _ _ N hN lT _ _ hm).mono fun e w' h=>⟨h.1,X.on h.2⟩
 have c75:∀X:am A1,Calls ZP 75 #[.int .i64 (kR (ai x.parts) t N),.int .i64 x.lo,.int .i64 x.hi] X.1 (fun e iU=>e=.returned (.bool (ff N t x))/\∃Y:am A1,iU=Y.1):=fun X=>
  (dQ _ _ _ _).mono fun e w' h=>⟨h.1,X.same h.2⟩
 generalize kR (ai x.parts) t N=tk at*;generalize ff N t x=r at*;clear h1 h2 B1 C1 C2 hm hN;go_enter ZF132,Tryz.ntmps132
 go_wp2
 refine aq (by kernel_rfl) (by kernel_rfl) ?_;repeat(go_big_quiet_step (first|(go_at_call 64;exact c64 _)|(go_at_call 102;exact zbE _)|(go_at_call 75;exact c75 _)))
 refine wpQuiet_nil ?_;rintro _ ⟨X,rfl⟩;go_wp2
 go_ret;exact cW.mk rfl (HW.o.trans (X.2.mono HW.o.size))
def Vj (f:iM->Bool) (l:List iM) (k:Nat):Prop:=∀x∈l.take k,f x=true
theorem xt (w:World) (v v2 v3 v4:Value) (b:av) (g1 g2:Nat) (N:Nat) (hN:b.places=N) (lT:N<=4) (t:Nat->Int) (l:List iM)
 (hl:∀x∈l,x.parts.length<=4/\∀i,i<N->0<=ai x.parts i/\ai x.parts i<5)
 (h1:aF w g1 79 #[.int .i64 b.an,.int .i64 b.places,v2,v3,v4]) (h2:aF w g2 111 (tick t)) (h:eV w v l):
 Calls ZP 139 #[v,.func (.func 132) #[] #[ptr g1,ptr g2]] w (ci w fun r=>0<=r↔¬∀x∈l,ff N t x=true):=by
 obtain⟨a,c,h3,h4⟩:=h;have H:Hid (cn w v l.length a c/\_):=⟨h3,h4⟩
 have H1:=hid h1;have H2:=hid h2;have HT:=hid hl;have HN:=hid hN;obtain⟨rfl,l1,m1,n1,r1⟩:=h3;unfold maxLen at m1;clear h4 n1 r1 h1 h2 hl hN;go_enter ZF139,Tryz.ntmps139
 go_wp2
 go_loopw [8,5] (fun i j w1=>∃k:Nat,k<=l.length/\Hid (Vj (ff N t) l k)/\i=.int .i64 k/\Hid (Below w.heap.size w w1)) (fun i _ _=>l.length-(intOf i).toNat)
 case atStart=>exact⟨0,Nat.zero_le _,fun x hx=>by simp at hx,rfl,Below.refl _ _⟩
 case round=>
  obtain⟨k,hk,hA,rfl,hB⟩:=hrel;by_cases aA:k<l.length
  .obtain⟨⟨blk,off,sp⟩,x,rfl,hx,⟨vf,x0,x6⟩,x1,x2⟩:=H.o.1.elem H.o.2 aA;obtain rfl:sp=none:=x0.1;have XU:=x6;obtain⟨af,cf,hf,_⟩:=x6;obtain⟨rfl,lf,mf,_,_⟩:=hf;have y0:=(x0.later (Kp.of hB.o)).2;have y1:=(x1.later (Kp.of hB.o)).2;have y2:=(x2.later (Kp.of hB.o)).2;simp only[<-Nat.add_assoc]at y0 y1 y2;have ka:(k:Int)<(l.length:Int):=by omega
   have HX:=hid hx;have tA:=HT.o x (List.mem_of_getElem? hx);have hC:=Fx wr v2 v3 v4 _ b x g1 g2 N HN.o lT t tA.1 tA.2 (H1.o.below hB.o H1.o.lt) (H2.o.below hB.o H2.o.lt) (XU.later (Kp.of hB.o));clear x0 x1 x2 hx tA XU;cases hr:ff N t x with
   |true=>
    rw[hr]at hC;have HR:=hid hr;clear hr;go_wp2_with(go_at_call 132;refine hC.mono ?_;rintro e w1 ⟨⟨r,rfl,rfl⟩,bN⟩)
    go_round
    case rel=>
     refine⟨k+1,by omega,fun y hy=>?_,by go_num,hB.o.trans (bN.mono hB.o.size)⟩;rw[List.take_add_one,HX.o]at hy;rcases List.mem_append.1 hy with hy|hy
     .exact hA.o y hy
     .simp at hy;subst hy;exact HR.o
    case measure=>simp[intOf];omega
   |false=>
    rw[hr]at hC;have HR:=hid hr;clear hr;go_wp2_with(go_at_call 132;refine hC.mono ?_;rintro e w1 ⟨⟨r,rfl,rfl⟩,bN⟩)
    go_ret;refine ci.mk (r:=k) ⟨fun _ hh=>?_,fun _=>by omega⟩ (hB.o.trans (bN.mono hB.o.size));have:=hh x (List.mem_of_getElem? HX.o);rw[HR.o]at this;cases this
  .go_wp2
   go_ret;have e:k=l.length:=by omega
   subst e;refine ci.mk (r:=-1) ⟨fun h=>by omega,fun hh=>absurd (fun x hx=>hA.o x (by rw[List.take_length];exact hx)) hh⟩ hB.o
theorem xu (w:World) (v v2 v3 v4:Value) (b:av) (g1 g2:Nat) (N:Nat) (hN:b.places=N) (lT:N<=4) (t:Nat->Int) (l:List iM)
 (hl:∀x∈l,x.parts.length<=4/\∀i,i<N->0<=ai x.parts i/\ai x.parts i<5)
 (h1:aF w g1 79 #[.int .i64 b.an,.int .i64 b.places,v2,v3,v4]) (h2:aF w g2 111 (tick t)) (h:eV w v l):
 Calls ZP 131 #[v,.func (.func 132) #[] #[ptr g1,ptr g2]] w (cW w fun r=>r=!l.all (ff N t)):=by
 have hC:=xt w v v2 v3 v4 b g1 g2 N hN lT t l hl h1 h2 h;clear hl h1 h2 h hN;go_enter ZF131,Tryz.ntmps131
 go_wp2_with(go_at_call 139;refine hC.mono ?_;rintro e w1 ⟨⟨r,rfl,hr⟩,bN⟩;replace hr:Hid (0<=r↔¬∀x∈l,ff N t x=true):=hr)
 go_ret;have hr:=hr.o;refine cW.mk ?_ bN;cases hq:l.all (ff N t)with
 |true=>
  have h1:¬0<=r:=fun h=>(hr.1 h) (List.all_eq_true.1 hq)
  simp only[decide_eq_false h1,Bool.not_true]
 |false=>
  have h1:0<=r:=hr.2 fun h=>by rw[List.all_eq_true.2 h]at hq;cases hq
  simp only[decide_eq_true h1,Bool.not_false]
theorem Fy (hv:Valid b):∀x∈b.ac,x.parts.length<=4/\∀i,i<b.places.toNat->0<=ai x.parts i/\ai x.parts i<5:=fun x hx=>by
 obtain⟨j,hj,e⟩:=List.getElem_of_mem hx;have h:=hv.ac j x hj (by rw[List.getElem?_eq_getElem hj,e]);have hp:=hv.places;have hl:=h.1.len;exact⟨by omega,pY hv.parts.many.2 h.1⟩
theorem Ch (w:World) (v:Value) (b:av) (t:Nat->Int) (hb:aD w v b) (hv:Valid b):
 Calls ZP 114 #[v,.agg (tick t)] w (dd w (.bool (bX b t))):=by
 obtain⟨N,hN⟩:∃N:Nat,b.places=N:=⟨b.places.toNat,by have:=hv.places;omega⟩
 have lT:N<=4:=by have:=hv.places;omega
 have HT:Hid (∀x∈b.ac,x.parts.length<=4/\∀i,i<N->0<=ai x.parts i/\ai x.parts i<5):=(by have:=Fy hv;rw[hN]at this;simpa using this:∀x∈b.ac,x.parts.length<=4/\∀i,i<N->0<=ai x.parts i/\ai x.parts i<5)
 have HA:Hid (bX b t=b.ac.all (ff N t)):=(by unfold bX;rw[hN];simp:bX b t=b.ac.all (ff N t))
 have HN:=hid hN;obtain⟨v2,v3,v4,rfl,⟨a2,c2,⟨rfl,_,_,_,_⟩,_⟩,⟨a3,c3,⟨rfl,_,_,_,_⟩,_⟩,h4⟩:=hb;have H4:=hid h4;obtain⟨a4,c4,⟨rfl,_,_,_,_⟩,_⟩:=h4;obtain⟨A1,bB⟩:=ex1 (w.alloc (.cells #[.int .i64 b.an,.int .i64 b.places,.slice a2 b.parts.length c2,.slice a3 b.apart.length c3,.slice a4 b.ac.length c4] 79));obtain⟨A2,cu⟩:=ex1 (A1.alloc (.cells (tick t) 111));have eS:=snew bB;have b1:=(bnewk bB cu).o;have B2:=bnew2 cu eS;have HW:=wnew2 bB cu;obtain⟨-,-,-,-,z4⟩:=b1.c5;have hC:=xu A2 _ _ _ _ b w.heap.size (w.heap.size+1) N hN lT t b.ac HT.o b1 B2.o (H4.o.later (Kp.of HW.o));simp only[tick]at cu⊢;clear b1 hN hv;go_enter ZF114,Tryz.ntmps114
 go_wp2_with(go_at_call 131;refine hC.mono ?_;rintro e w' ⟨⟨r,rfl,hr⟩,bN⟩)
 go_ret;refine⟨?_,HW.o.trans (bN.mono HW.o.size)⟩;rw[HA.o];rfl
theorem lW {w:World} {v:Value} (hb:aD w v b) (hv:Valid b):kF w v (bX b):=fun X t hX=>Ch X v b t (hb.later (Kp.of hX)) hv
theorem xv (w:World) (b:av) (v:Value) (a2:Option Addr) (c2:Nat) (v3 v4:Value) (ag:(Nat->Int)->Bool) (Fh:v=.agg #[.int .i64 b.an,.int .i64 b.places,.slice a2 b.parts.length c2,v3,v4]) (hb:aD w v b) (hv:Valid b) (hc:kD w)
 (gl:Nat) (iK:∀X t,Below w.heap.size w X->Calls ZP 114 #[v,.agg (tick t)] X (dd X (.bool (ag t))))
 (cH:∀X,Below w.heap.size w X->Calls ZP 62 #[v,ptr gl] X (dd X (.int .i64 0))):
 Calls ZP 55 #[v,.func (.func 62) #[] #[ptr gl]] w (DA w b (.slice a2 b.parts.length c2) v3 v4 (aC b ag)):=
 openF_any 62 ZC62 w b v a2 c2 v3 v4 ag Fh hb hv hc #[ptr gl] iK cH
theorem tT (w:World) (b:av) (v:Value) (a2:Option Addr) (c2:Nat) (v3 v4:Value) (ag:(Nat->Int)->Bool) (Fh:v=.agg #[.int .i64 b.an,.int .i64 b.places,.slice a2 b.parts.length c2,v3,v4]) (hb:aD w v b) (hv:Valid b) (hc:kD w)
 (gl:Nat) (iK:∀X t,Below w.heap.size w X->Calls ZP 114 #[v,.agg (tick t)] X (dd X (.bool (ag t))))
 (cH:∀X,Below w.heap.size w X->Calls ZP 83 #[v,ptr gl] X (dd X (.int .i64 0))):
 Calls ZP 55 #[v,.func (.func 83) #[] #[ptr gl]] w (DA w b (.slice a2 b.parts.length c2) v3 v4 (aC b ag)):=
 openF_any 83 ZC83 w b v a2 c2 v3 v4 ag Fh hb hv hc #[ptr gl] iK cH
end Go.Proofs.Cz
