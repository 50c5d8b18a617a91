/- A part. Conditions: none. -/
import Derived.Test.YtboiakcocelkmaaGreatDoorT38
import Derived.Shelf.Sort.Plain
import Derived.Shelf.Slices.CompactI
import Derived.Sort.OwnSortedInts
set_option linter.all false
set_option maxHeartbeats 8000000
set_option maxRecDepth 100000
namespace Go.Proofs.Cz
open Go.RowKit Go.Shelf
variable {B cap g:Nat} {w:World}
def KH:Go.Shelf.Ren:=⟨fun|189=>47|125=>103|257=>102|128=>132|129=>133|294=>123|295=>124|296=>125|297=>126|298=>127|299=>128|216=>129|300=>130|301=>131|328=>143|329=>144|330=>145|331=>146|332=>147|215=>148|343=>151|n=>n,fun|28=>27|3=>3|46=>135|0=>0|51=>158|53=>160|4=>4|183=>152|182=>151|131=>121|5=>5|9=>9|218=>167|222=>171|228=>175|229=>176|n=>n,fun n=>n⟩
theorem He:Lays.n189 ZP KH where
 mixed:=by kernel_rfl
 f125:=ZF103.trans (congrArg some (by kernel_rfl))
 f128:=ZF132.trans (congrArg some (by kernel_rfl))
 f129:=ZF133.trans (congrArg some (by kernel_rfl))
 f189:=ZF47.trans (congrArg some (by kernel_rfl))
 f215:=ZF148.trans (congrArg some (by kernel_rfl))
 f216:=ZF129.trans (congrArg some (by kernel_rfl))
 f257:=ZF102.trans (congrArg some (by kernel_rfl))
 f294:=ZF123.trans (congrArg some (by kernel_rfl))
 f295:=ZF124.trans (congrArg some (by kernel_rfl))
 f296:=ZF125.trans (congrArg some (by kernel_rfl))
 f297:=ZF126.trans (congrArg some (by kernel_rfl))
 f298:=ZF127.trans (congrArg some (by kernel_rfl))
 f299:=ZF128.trans (congrArg some (by kernel_rfl))
 f300:=ZF130.trans (congrArg some (by kernel_rfl))
 f301:=ZF131.trans (congrArg some (by kernel_rfl))
 f328:=ZF143.trans (congrArg some (by kernel_rfl))
 f329:=ZF144.trans (congrArg some (by kernel_rfl))
 f330:=ZF145.trans (congrArg some (by kernel_rfl))
 f331:=ZF146.trans (congrArg some (by kernel_rfl))
 f332:=ZF147.trans (congrArg some (by kernel_rfl))
 f343:=ZF151.trans (congrArg some (by kernel_rfl))
 t0:=(Tz.under _).trans Tryz.underlying0
 a0:=fun w=>(Tz.da 0 w).trans (Tryz.isAgg0 w)
 z0:=fun w=>(Tz.bT 0 w).trans (Tryz.sizeOf0 w)
 v0:=fun w=>(Tz.bS 0 w).trans (Tryz.zeroValue0 w)
 t3:=(Tz.under _).trans Tryz.underlying3
 a3:=fun w=>(Tz.da 3 w).trans (Tryz.isAgg3 w)
 z3:=fun w=>(Tz.bT 3 w).trans (Tryz.sizeOf3 w)
 v3:=fun w=>(Tz.bS 3 w).trans (Tryz.zeroValue3 w)
 t4:=(Tz.under _).trans Tryz.underlying4
 a4:=fun w=>(Tz.da 4 w).trans (Tryz.isAgg4 w)
 z4:=fun w=>(Tz.bT 4 w).trans (Tryz.sizeOf4 w)
 v4:=fun w=>(Tz.bS 4 w).trans (Tryz.zeroValue4 w)
 t5:=(Tz.under _).trans Tryz.underlying5
 a5:=fun w=>(Tz.da 5 w).trans (Tryz.isAgg5 w)
 z5:=fun w=>(Tz.bT 5 w).trans (Tryz.sizeOf5 w)
 v5:=fun w=>(Tz.bS 5 w).trans (Tryz.zeroValue5 w)
 t9:=(Tz.under _).trans Tryz.underlying9
 a9:=fun w=>(Tz.da 9 w).trans (Tryz.isAgg9 w)
 z9:=fun w=>(Tz.bT 9 w).trans (Tryz.sizeOf9 w)
 v9:=fun w=>(Tz.bS 9 w).trans (Tryz.zeroValue9 w)
 t28:=(Tz.under _).trans Tryz.underlying27
 a28:=fun w=>(Tz.da 27 w).trans (Tryz.isAgg27 w)
 z28:=fun w=>(Tz.bT 27 w).trans (Tryz.sizeOf27 w)
 v28:=fun w=>(Tz.bS 27 w).trans (Tryz.zeroValue27 w)
 t46:=(Tz.under _).trans Tryz.underlying135
 a46:=fun w=>(Tz.da 135 w).trans (Tryz.isAgg135 w)
 z46:=fun w=>(Tz.bT 135 w).trans (Tryz.sizeOf135 w)
 v46:=fun w=>(Tz.bS 135 w).trans (Tryz.zeroValue135 w)
 t51:=(Tz.under _).trans Tryz.underlying158
 a51:=fun w=>(Tz.da 158 w).trans (Tryz.isAgg158 w)
 z51:=fun w=>(Tz.bT 158 w).trans (Tryz.sizeOf158 w)
 v51:=fun w=>(Tz.bS 158 w).trans (Tryz.zeroValue158 w)
 t53:=(Tz.under _).trans Tryz.underlying160
 a53:=fun w=>(Tz.da 160 w).trans (Tryz.isAgg160 w)
 z53:=fun w=>(Tz.bT 160 w).trans (Tryz.sizeOf160 w)
 v53:=fun w=>(Tz.bS 160 w).trans (Tryz.zeroValue160 w)
 t131:=(Tz.under _).trans Tryz.underlying121
 a131:=fun w=>(Tz.da 121 w).trans (Tryz.isAgg121 w)
 z131:=fun w=>(Tz.bT 121 w).trans (Tryz.sizeOf121 w)
 v131:=fun w=>(Tz.bS 121 w).trans (Tryz.zeroValue121 w)
 t182:=(Tz.under _).trans Tryz.underlying151
 a182:=fun w=>(Tz.da 151 w).trans (Tryz.isAgg151 w)
 z182:=fun w=>(Tz.bT 151 w).trans (Tryz.sizeOf151 w)
 v182:=fun w=>(Tz.bS 151 w).trans (Tryz.zeroValue151 w)
 t183:=(Tz.under _).trans Tryz.underlying152
 a183:=fun w=>(Tz.da 152 w).trans (Tryz.isAgg152 w)
 z183:=fun w=>(Tz.bT 152 w).trans (Tryz.sizeOf152 w)
 v183:=fun w=>(Tz.bS 152 w).trans (Tryz.zeroValue152 w)
 t218:=(Tz.under _).trans Tryz.underlying167
 a218:=fun w=>(Tz.da 167 w).trans (Tryz.isAgg167 w)
 z218:=fun w=>(Tz.bT 167 w).trans (Tryz.sizeOf167 w)
 v218:=fun w=>(Tz.bS 167 w).trans (Tryz.zeroValue167 w)
 t222:=(Tz.under _).trans Tryz.underlying171
 a222:=fun w=>(Tz.da 171 w).trans (Tryz.isAgg171 w)
 z222:=fun w=>(Tz.bT 171 w).trans (Tryz.sizeOf171 w)
 v222:=fun w=>(Tz.bS 171 w).trans (Tryz.zeroValue171 w)
 t228:=(Tz.under _).trans Tryz.underlying175
 a228:=fun w=>(Tz.da 175 w).trans (Tryz.isAgg175 w)
 z228:=fun w=>(Tz.bT 175 w).trans (Tryz.sizeOf175 w)
 v228:=fun w=>(Tz.bS 175 w).trans (Tryz.zeroValue175 w)
 t229:=(Tz.under _).trans Tryz.underlying176
 a229:=fun w=>(Tz.da 176 w).trans (Tryz.isAgg176 w)
 z229:=fun w=>(Tz.bT 176 w).trans (Tryz.sizeOf176 w)
 v229:=fun w=>(Tz.bS 176 w).trans (Tryz.zeroValue176 w)
def AQ:Go.Shelf.Ren:=⟨fun|20=>48|n=>n,fun|22=>27|3=>3|4=>4|0=>0|n=>n,fun n=>n⟩
theorem yI:Lays2.n20 ZP AQ where
 mixed:=by kernel_rfl
 f20:=ZF48.trans (congrArg some (by kernel_rfl))
 t0:=(Tz.under _).trans Tryz.underlying0
 a0:=fun w=>(Tz.da 0 w).trans (Tryz.isAgg0 w)
 z0:=fun w=>(Tz.bT 0 w).trans (Tryz.sizeOf0 w)
 v0:=fun w=>(Tz.bS 0 w).trans (Tryz.zeroValue0 w)
 t3:=(Tz.under _).trans Tryz.underlying3
 a3:=fun w=>(Tz.da 3 w).trans (Tryz.isAgg3 w)
 z3:=fun w=>(Tz.bT 3 w).trans (Tryz.sizeOf3 w)
 v3:=fun w=>(Tz.bS 3 w).trans (Tryz.zeroValue3 w)
 t4:=(Tz.under _).trans Tryz.underlying4
 a4:=fun w=>(Tz.da 4 w).trans (Tryz.isAgg4 w)
 z4:=fun w=>(Tz.bT 4 w).trans (Tryz.sizeOf4 w)
 v4:=fun w=>(Tz.bS 4 w).trans (Tryz.zeroValue4 w)
 t22:=(Tz.under _).trans Tryz.underlying27
 a22:=fun w=>(Tz.da 27 w).trans (Tryz.isAgg27 w)
 z22:=fun w=>(Tz.bT 27 w).trans (Tryz.sizeOf27 w)
 v22:=fun w=>(Tz.bS 27 w).trans (Tryz.zeroValue27 w)
 i3:=by kernel_rfl
def ik (l:List Int):List Int:=l.mergeSort fun x y=>decide (x<=y)
theorem jm (l:List Int):(ik l).length=l.length:=List.length_mergeSort l
theorem nD (d:Array Int):∀m,(Lib.compactUpTo d m).length<=m
 |0=>by simp[Lib.compactUpTo]
 |m+1=>by
  have:=nD d m;rw[Lib.compactUpTo_succ,List.length_append];split<;>simp<;>omega
theorem sa (l:List Int):(Lib.compact l).length<=l.length:=nD _ _
theorem vT {e:TypeId} {n k:Nat} {xs:List Value} (h:w.ownsRow B e 1 (.slice (some ⟨g,0,none⟩) n cap) n xs) (hk:k<=n):w.ownsRow B e 1 (.slice (some ⟨g,0,none⟩) k cap) k (xs.take k):=by
 obtain⟨h1,⟨h2,_⟩|⟨g',jW,cur,h2,h3,h4,h5,h6,h7,h8⟩⟩:=h
 .cases h2
 .cases h2;refine⟨by simp;omega,.inr ⟨g,cap,cur,rfl,h3,h4,by omega,h6,h7,?_⟩⟩;rw[<-h8,List.take_take];congr 1;omega
theorem ul {l:List Int} (h:w.ownsRow B 3 1 (.slice (some ⟨g,0,none⟩) l.length cap) l.length (l.map (Value.int .i64))):Sort.Holds (Value.int .i64) w g 0 l.toArray:=by
 obtain⟨h1,⟨h2,_⟩|⟨g',jW,cur,h2,h3,h4,h5,h6,h7,h8⟩⟩:=h
 .cases h2
 .cases h2;rw[Nat.mul_one]at h8;exact holds_of_blockI h4 h8
theorem Hf (w:World) (B:Nat) (v:Value) (l:List Int) (hl:l.length<=10000) (bA:l≠ []) (ho:w.ownsRow B 3 1 v l.length (l.map (Value.int .i64))):
 Calls ZP 47 #[v] w (fun e w'=>e=.returned (.tuple #[])/\w'.ownsRow B 3 1 v l.length ((ik l).map (Value.int .i64))/\w.grownBy w' v.ownBlock):=by
 have gH:0<l.length:=List.length_pos_iff.2 bA;have Bq:=ho;obtain⟨h1,⟨h2,h0⟩|⟨g,cap,cur,rfl,h3,h4,h5,h6,h7,h8⟩⟩:=ho
 .omega
 refine(Any.slices_Sort_int He g 0 cap l w (ul Bq) (Array.getElem?_eq_some_iff.1 h4).1 (by omega)).mono ?_;rintro e w' ⟨rfl,n,os,rfl⟩;exact⟨rfl,ownsRow_sortedI (jm l) h3 h4 h5 h6 h7,grownBy_sortedI _⟩
theorem yJ (w:World) (B:Nat) (v:Value) (l:List Int) (hl:l.length<=10000) (bA:l≠ []) (ho:w.ownsRow B 3 1 v l.length (l.map (Value.int .i64))):
 Calls ZP 48 #[v] w (fun e w'=>(∃v',e=.returned v'/\w'.ownsRow B 3 1 v' (Lib.compact l).length ((Lib.compact l).map (Value.int .i64)))/\w.grownBy w' v.ownBlock):=by
 have gH:0<l.length:=List.length_pos_iff.2 bA;have Bq:=ho;obtain⟨h1,⟨h2,h0⟩|⟨g,cap,cur,rfl,h3,h4,h5,h6,h7,h8⟩⟩:=ho
 .omega
 refine(Any.slices_Compact_int yI g 0 cap l w (ul Bq) (by omega) h5).mono ?_;rintro e w' ⟨rfl,q,rfl⟩;have hc:(Lib.compact l).length<=l.length:=sa l;have O8:∀W:World,Sort.grow W #[]=W:=fun W=>by unfold Sort.grow;rw[Array.append_empty]
 have e1:=ownsRow_sortedI (w:=w) (base:=B) (g:=g) (cap:=cap) (n:=q) (os:=#[]) (ss:=l) (ts:=Lib.compact l++List.replicate (l.length-(Lib.compact l).length) 0) (by simp;omega) h3 h4 h5 h6 h7;have e2:=grownBy_sortedI (w:=w) (g:=g) (n:=q) (os:=#[]) (Lib.compact l++List.replicate (l.length-(Lib.compact l).length) 0).toArray;rw[O8]at e1 e2;have e3:=vT e1 hc;rw[List.map_append,List.take_left' (by simp)]at e3;exact⟨⟨_,rfl,e3⟩,e2⟩
def iR (N:Nat) (m:Nat->Int):Nat:=(Lib.compact (ik (dd N m))).length
theorem um (N:Nat) (m:Nat->Int):iR N m<=N:=by
 have h:=sa (ik (dd N m));rw[jm]at h;unfold iR;simpa [dd]using h
theorem tg (w:World) (v2 v3 v4:Value) (b:an) (N:Nat) (hN:b.places=N) (EC:1<=N/\N<=4) (m:Nat->Int):
 Calls ZP 82 #[.agg #[.int .i64 b.ap,.int .i64 b.places,v2,v3,v4],.agg (dC m)] w (dU w (.int .i64 (iR N m))):=by
 obtain⟨A1,bH⟩:=ex1 (w.alloc (.cells #[.int .i64 b.ap,.int .i64 b.places,v2,v3,v4] 66));obtain⟨A2,eQ⟩:=ex1 (A1.alloc (.cells (dC m) 86));have j9:=snew bH;have B1:=(bnewk bH eQ).o;have B2:=(bnew2 eQ j9).o;have HW:=wnew2 bH eQ;obtain⟨z0,z1,z2,z3,z4⟩:=B1.c5;obtain⟨y0,y1,y2,y3⟩:=B2.c4;have hC:=G8 A2 v2 v3 v4 b N hN EC m;have hl:(dd N m).length=N:=by simp[dd]
 have PJ:Hid ((dd N m).length=N/\1<=N/\N<=4):=⟨hl,EC⟩
 have HD:Hid ((Lib.compact (ik (dd N m))).length=iR N m):=rfl;have Va:=um N m;simp only[dC]at eQ hC⊢;generalize iR N m=D at*;obtain⟨P,hP⟩:=ex1 (dd N m);rw[hP]at hC PJ HD;clear B1 B2 hN hl hP;go_enter ZF82,Tryz.ntmps82
 go_wp2_with(first
  |(go_at_call 88
    refine hC.mono ?_;rintro e w1 ⟨⟨v,rfl,ho⟩,bu⟩;have HO:Hid (w1.ownsRow w.heap.size 3 1 v P.length (P.map (Value.int .i64))):=gL ho HW.o.size;have ew:=HW.t bu;clear ho bu hC z0 z1 z2 z3 z4 y0 y1 y2 y3)
  |(go_at_call 47
    refine(Hf w1 w.heap.size v P (by have:=PJ.o;omega) (fun e=>by have:=PJ.o;rw[e]at this;simp only[List.length_nil]at this;omega) HO.o).mono ?_;rintro e w2 ⟨rfl,ho,hg⟩;have qq:Hid (w2.ownsRow w.heap.size 3 1 v (ik P).length ((ik P).map (Value.int .i64))):=(by rw[jm];exact ho:w2.ownsRow w.heap.size 3 1 v (ik P).length ((ik P).map (Value.int .i64)))
    have jV:Hid (Below w.heap.size w w2):=Below.grown ew.o hg ew.o.size (fun k hk=>(aH HO.o k hk).1);clear ho hg)
  |(go_at_call 48
    refine(yJ w2 w.heap.size v (ik P) (by rw[jm];have:=PJ.o;omega) (fun e=>by have h1:=jm P;rw[e]at h1;have h2:=PJ.o;simp only[List.length_nil]at h1;omega) qq.o).mono ?_;rintro e w3 ⟨⟨v',rfl,ho⟩,hg⟩;have iP:Hid (Below w.heap.size w w3):=Below.grown jV.o hg jV.o.size (fun k hk=>(aH qq.o k hk).1);obtain⟨a',c',rfl⟩:=iQ ho;rw[HD.o];clear ho hg))
 go_ret;exact⟨rfl,iP.o⟩
end Go.Proofs.Cz
