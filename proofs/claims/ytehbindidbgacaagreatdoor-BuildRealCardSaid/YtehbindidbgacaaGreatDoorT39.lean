/- A part. Conditions: none. -/
import Derived.Test.YtehbindidbgacaaGreatDoorT38
import Derived.Shelf.Sort.Plain
import Derived.Shelf.Slices.CompactI
import Derived.Sort.OwnSortedInts
set_option linter.all false
set_option maxHeartbeats 8000000
set_option maxRecDepth 100000
namespace Go.Proofs.Cz
open Go.RowKit Go.Shelf
variable {B cap g:Nat} {w:World}
def Mj:Go.Shelf.Ren:=⟨fun|189=>52|125=>94|257=>93|128=>119|129=>120|294=>110|295=>111|296=>112|297=>113|298=>114|299=>115|216=>116|300=>117|301=>118|328=>131|329=>132|330=>133|331=>134|332=>135|215=>130|343=>138|n=>n,fun|28=>31|3=>3|46=>141|0=>0|51=>164|53=>166|4=>4|183=>158|182=>157|131=>61|5=>5|9=>9|218=>172|222=>176|228=>180|229=>181|n=>n,fun n=>n⟩
theorem I7:Lays.n189 ZP Mj where
 mixed:=by kernel_rfl
 f125:=ZF94.trans (congrArg some (by kernel_rfl))
 f128:=ZF119.trans (congrArg some (by kernel_rfl))
 f129:=ZF120.trans (congrArg some (by kernel_rfl))
 f189:=ZF52.trans (congrArg some (by kernel_rfl))
 f215:=ZF130.trans (congrArg some (by kernel_rfl))
 f216:=ZF116.trans (congrArg some (by kernel_rfl))
 f257:=ZF93.trans (congrArg some (by kernel_rfl))
 f294:=ZF110.trans (congrArg some (by kernel_rfl))
 f295:=ZF111.trans (congrArg some (by kernel_rfl))
 f296:=ZF112.trans (congrArg some (by kernel_rfl))
 f297:=ZF113.trans (congrArg some (by kernel_rfl))
 f298:=ZF114.trans (congrArg some (by kernel_rfl))
 f299:=ZF115.trans (congrArg some (by kernel_rfl))
 f300:=ZF117.trans (congrArg some (by kernel_rfl))
 f301:=ZF118.trans (congrArg some (by kernel_rfl))
 f328:=ZF131.trans (congrArg some (by kernel_rfl))
 f329:=ZF132.trans (congrArg some (by kernel_rfl))
 f330:=ZF133.trans (congrArg some (by kernel_rfl))
 f331:=ZF134.trans (congrArg some (by kernel_rfl))
 f332:=ZF135.trans (congrArg some (by kernel_rfl))
 f343:=ZF138.trans (congrArg some (by kernel_rfl))
 t0:=(Tz.under _).trans Tryz.underlying0
 a0:=fun w=>(Tz.cW 0 w).trans (Tryz.isAgg0 w)
 z0:=fun w=>(Tz.cg 0 w).trans (Tryz.sizeOf0 w)
 v0:=fun w=>(Tz.bZ 0 w).trans (Tryz.zeroValue0 w)
 t3:=(Tz.under _).trans Tryz.underlying3
 a3:=fun w=>(Tz.cW 3 w).trans (Tryz.isAgg3 w)
 z3:=fun w=>(Tz.cg 3 w).trans (Tryz.sizeOf3 w)
 v3:=fun w=>(Tz.bZ 3 w).trans (Tryz.zeroValue3 w)
 t4:=(Tz.under _).trans Tryz.underlying4
 a4:=fun w=>(Tz.cW 4 w).trans (Tryz.isAgg4 w)
 z4:=fun w=>(Tz.cg 4 w).trans (Tryz.sizeOf4 w)
 v4:=fun w=>(Tz.bZ 4 w).trans (Tryz.zeroValue4 w)
 t5:=(Tz.under _).trans Tryz.underlying5
 a5:=fun w=>(Tz.cW 5 w).trans (Tryz.isAgg5 w)
 z5:=fun w=>(Tz.cg 5 w).trans (Tryz.sizeOf5 w)
 v5:=fun w=>(Tz.bZ 5 w).trans (Tryz.zeroValue5 w)
 t9:=(Tz.under _).trans Tryz.underlying9
 a9:=fun w=>(Tz.cW 9 w).trans (Tryz.isAgg9 w)
 z9:=fun w=>(Tz.cg 9 w).trans (Tryz.sizeOf9 w)
 v9:=fun w=>(Tz.bZ 9 w).trans (Tryz.zeroValue9 w)
 t28:=(Tz.under _).trans Tryz.underlying31
 a28:=fun w=>(Tz.cW 31 w).trans (Tryz.isAgg31 w)
 z28:=fun w=>(Tz.cg 31 w).trans (Tryz.sizeOf31 w)
 v28:=fun w=>(Tz.bZ 31 w).trans (Tryz.zeroValue31 w)
 t46:=(Tz.under _).trans Tryz.underlying141
 a46:=fun w=>(Tz.cW 141 w).trans (Tryz.isAgg141 w)
 z46:=fun w=>(Tz.cg 141 w).trans (Tryz.sizeOf141 w)
 v46:=fun w=>(Tz.bZ 141 w).trans (Tryz.zeroValue141 w)
 t51:=(Tz.under _).trans Tryz.underlying164
 a51:=fun w=>(Tz.cW 164 w).trans (Tryz.isAgg164 w)
 z51:=fun w=>(Tz.cg 164 w).trans (Tryz.sizeOf164 w)
 v51:=fun w=>(Tz.bZ 164 w).trans (Tryz.zeroValue164 w)
 t53:=(Tz.under _).trans Tryz.underlying166
 a53:=fun w=>(Tz.cW 166 w).trans (Tryz.isAgg166 w)
 z53:=fun w=>(Tz.cg 166 w).trans (Tryz.sizeOf166 w)
 v53:=fun w=>(Tz.bZ 166 w).trans (Tryz.zeroValue166 w)
 t131:=(Tz.under _).trans Tryz.underlying61
 a131:=fun w=>(Tz.cW 61 w).trans (Tryz.isAgg61 w)
 z131:=fun w=>(Tz.cg 61 w).trans (Tryz.sizeOf61 w)
 v131:=fun w=>(Tz.bZ 61 w).trans (Tryz.zeroValue61 w)
 t182:=(Tz.under _).trans Tryz.underlying157
 a182:=fun w=>(Tz.cW 157 w).trans (Tryz.isAgg157 w)
 z182:=fun w=>(Tz.cg 157 w).trans (Tryz.sizeOf157 w)
 v182:=fun w=>(Tz.bZ 157 w).trans (Tryz.zeroValue157 w)
 t183:=(Tz.under _).trans Tryz.underlying158
 a183:=fun w=>(Tz.cW 158 w).trans (Tryz.isAgg158 w)
 z183:=fun w=>(Tz.cg 158 w).trans (Tryz.sizeOf158 w)
 v183:=fun w=>(Tz.bZ 158 w).trans (Tryz.zeroValue158 w)
 t218:=(Tz.under _).trans Tryz.underlying172
 a218:=fun w=>(Tz.cW 172 w).trans (Tryz.isAgg172 w)
 z218:=fun w=>(Tz.cg 172 w).trans (Tryz.sizeOf172 w)
 v218:=fun w=>(Tz.bZ 172 w).trans (Tryz.zeroValue172 w)
 t222:=(Tz.under _).trans Tryz.underlying176
 a222:=fun w=>(Tz.cW 176 w).trans (Tryz.isAgg176 w)
 z222:=fun w=>(Tz.cg 176 w).trans (Tryz.sizeOf176 w)
 v222:=fun w=>(Tz.bZ 176 w).trans (Tryz.zeroValue176 w)
 t228:=(Tz.under _).trans Tryz.underlying180
 a228:=fun w=>(Tz.cW 180 w).trans (Tryz.isAgg180 w)
 z228:=fun w=>(Tz.cg 180 w).trans (Tryz.sizeOf180 w)
 v228:=fun w=>(Tz.bZ 180 w).trans (Tryz.zeroValue180 w)
 t229:=(Tz.under _).trans Tryz.underlying181
 a229:=fun w=>(Tz.cW 181 w).trans (Tryz.isAgg181 w)
 z229:=fun w=>(Tz.cg 181 w).trans (Tryz.sizeOf181 w)
 v229:=fun w=>(Tz.bZ 181 w).trans (Tryz.zeroValue181 w)
def Cj:Go.Shelf.Ren:=⟨fun|20=>53|n=>n,fun|22=>31|3=>3|4=>4|0=>0|n=>n,fun n=>n⟩
theorem zU:Lays2.n20 ZP Cj where
 mixed:=by kernel_rfl
 f20:=ZF53.trans (congrArg some (by kernel_rfl))
 t0:=(Tz.under _).trans Tryz.underlying0
 a0:=fun w=>(Tz.cW 0 w).trans (Tryz.isAgg0 w)
 z0:=fun w=>(Tz.cg 0 w).trans (Tryz.sizeOf0 w)
 v0:=fun w=>(Tz.bZ 0 w).trans (Tryz.zeroValue0 w)
 t3:=(Tz.under _).trans Tryz.underlying3
 a3:=fun w=>(Tz.cW 3 w).trans (Tryz.isAgg3 w)
 z3:=fun w=>(Tz.cg 3 w).trans (Tryz.sizeOf3 w)
 v3:=fun w=>(Tz.bZ 3 w).trans (Tryz.zeroValue3 w)
 t4:=(Tz.under _).trans Tryz.underlying4
 a4:=fun w=>(Tz.cW 4 w).trans (Tryz.isAgg4 w)
 z4:=fun w=>(Tz.cg 4 w).trans (Tryz.sizeOf4 w)
 v4:=fun w=>(Tz.bZ 4 w).trans (Tryz.zeroValue4 w)
 t22:=(Tz.under _).trans Tryz.underlying31
 a22:=fun w=>(Tz.cW 31 w).trans (Tryz.isAgg31 w)
 z22:=fun w=>(Tz.cg 31 w).trans (Tryz.sizeOf31 w)
 v22:=fun w=>(Tz.bZ 31 w).trans (Tryz.zeroValue31 w)
 i3:=by kernel_rfl
def fU (l:List Int):List Int:=l.mergeSort fun x y=>decide (x<=y)
theorem fm (l:List Int):(fU l).length=l.length:=List.length_mergeSort l
theorem oz (d:Array Int):∀m,(Lib.compactUpTo d m).length<=m
 |0=>by simp[Lib.compactUpTo]
 |m+1=>by
  have:=oz d m;rw[Lib.compactUpTo_succ,List.length_append];split<;>simp<;>omega
theorem sH (l:List Int):(Lib.compact l).length<=l.length:=oz _ _
theorem wZ {e:TypeId} {n k:Nat} {xs:List Value} (h:w.ownsRow B e 1 (.slice (some ⟨g,0,none⟩) n cap) n xs) (hk:k<=n):w.ownsRow B e 1 (.slice (some ⟨g,0,none⟩) k cap) k (xs.take k):=by
 obtain⟨h1,⟨h2,_⟩|⟨g',jw,cur,h2,h3,h4,h5,h6,h7,h8⟩⟩:=h
 .cases h2
 .cases h2;refine⟨by simp;omega,.inr ⟨g,cap,cur,rfl,h3,h4,by omega,h6,h7,?_⟩⟩;rw[<-h8,List.take_take];congr 1;omega
theorem vq {l:List Int} (h:w.ownsRow B 3 1 (.slice (some ⟨g,0,none⟩) l.length cap) l.length (l.map (Value.int .i64))):Sort.Holds (Value.int .i64) w g 0 l.toArray:=by
 obtain⟨h1,⟨h2,_⟩|⟨g',jw,cur,h2,h3,h4,h5,h6,h7,h8⟩⟩:=h
 .cases h2
 .cases h2;rw[Nat.mul_one]at h8;exact holds_of_blockI h4 h8
theorem zV (w:World) (B:Nat) (v:Value) (l:List Int) (hl:l.length<=10000) (bu:l≠ []) (ho:w.ownsRow B 3 1 v l.length (l.map (Value.int .i64))):
 Calls ZP 52 #[v] w (fun e w'=>e=.returned (.tuple #[])/\w'.ownsRow B 3 1 v l.length ((fU l).map (Value.int .i64))/\w.grownBy w' v.ownBlock):=by
 have fp:0<l.length:=List.length_pos_iff.2 bu;have JH:=ho;obtain⟨h1,⟨h2,h0⟩|⟨g,cap,cur,rfl,h3,h4,h5,h6,h7,h8⟩⟩:=ho
 .omega
 refine(Any.slices_Sort_int I7 g 0 cap l w (vq JH) (Array.getElem?_eq_some_iff.1 h4).1 (by omega)).mono ?_;rintro e w' ⟨rfl,n,os,rfl⟩;exact⟨rfl,ownsRow_sortedI (fm l) h3 h4 h5 h6 h7,grownBy_sortedI _⟩
theorem qh (w:World) (B:Nat) (v:Value) (l:List Int) (hl:l.length<=10000) (bu:l≠ []) (ho:w.ownsRow B 3 1 v l.length (l.map (Value.int .i64))):
 Calls ZP 53 #[v] w (fun e w'=>(∃v',e=.returned v'/\w'.ownsRow B 3 1 v' (Lib.compact l).length ((Lib.compact l).map (Value.int .i64)))/\w.grownBy w' v.ownBlock):=by
 have fp:0<l.length:=List.length_pos_iff.2 bu;have JH:=ho;obtain⟨h1,⟨h2,h0⟩|⟨g,cap,cur,rfl,h3,h4,h5,h6,h7,h8⟩⟩:=ho
 .omega
 refine(Any.slices_Compact_int zU g 0 cap l w (vq JH) (by omega) h5).mono ?_;rintro e w' ⟨rfl,q,rfl⟩;have hc:(Lib.compact l).length<=l.length:=sH l;have KD:∀W:World,Sort.grow W #[]=W:=fun W=>by unfold Sort.grow;rw[Array.append_empty]
 have e1:=ownsRow_sortedI (w:=w) (base:=B) (g:=g) (cap:=cap) (n:=q) (os:=#[]) (ss:=l) (ts:=Lib.compact l++List.replicate (l.length-(Lib.compact l).length) 0) (by simp;omega) h3 h4 h5 h6 h7;have e2:=grownBy_sortedI (w:=w) (g:=g) (n:=q) (os:=#[]) (Lib.compact l++List.replicate (l.length-(Lib.compact l).length) 0).toArray;rw[KD]at e1 e2;have e3:=wZ e1 hc;rw[List.map_append,List.take_left' (by simp)]at e3;exact⟨⟨_,rfl,e3⟩,e2⟩
def pC (N:Nat) (m:Nat->Int):Nat:=(Lib.compact (fU (aQ N m))).length
theorem FA (N:Nat) (m:Nat->Int):pC N m<=N:=by
 have h:=sH (fU (aQ N m));rw[fm]at h;unfold pC;simpa [aQ]using h
theorem mE (w:World) (v2 v3 v4:Value) (b:an) (N:Nat) (hN:b.places=N) (qe:1<=N/\N<=4) (m:Nat->Int):
 Calls ZP 58 #[.agg #[.int .i64 b.ah,.int .i64 b.places,v2,v3,v4],.agg (bD m)] w (cD w (.int .i64 (pC N m))):=by
 obtain⟨A1,ba⟩:=ex1 (w.alloc (.cells #[.int .i64 b.ah,.int .i64 b.places,v2,v3,v4] 84));obtain⟨A2,bN⟩:=ex1 (A1.alloc (.cells (bD m) 107));have eR:=snew ba;have B1:=(bnewk ba bN).o;have B2:=(bnew2 bN eR).o;have HW:=wnew2 ba bN;obtain⟨z0,z1,z2,z3,z4⟩:=B1.c5;obtain⟨y0,y1,y2,y3⟩:=B2.c4;have hC:=oy A2 v2 v3 v4 b N hN qe m;have hl:(aQ N m).length=N:=by simp[aQ]
 have ve:Hid ((aQ N m).length=N/\1<=N/\N<=4):=⟨hl,qe⟩
 have HD:Hid ((Lib.compact (fU (aQ N m))).length=pC N m):=rfl;have Yp:=FA N m;simp only[bD]at bN hC⊢;generalize pC N m=D at*;obtain⟨P,hP⟩:=ex1 (aQ N m);rw[hP]at hC ve HD;clear B1 B2 hN hl hP;go_enter ZF58,Tryz.ntmps58
 go_wp2_with(first
  |(go_at_call 60
    refine hC.mono ?_;rintro e w1 ⟨⟨v,rfl,ho⟩,bi⟩;have HO:Hid (w1.ownsRow w.heap.size 3 1 v P.length (P.map (Value.int .i64))):=ij ho HW.o.size;have db:=HW.t bi;clear ho bi hC z0 z1 z2 z3 z4 y0 y1 y2 y3)
  |(go_at_call 52
    refine(zV w1 w.heap.size v P (by have:=ve.o;omega) (fun e=>by have:=ve.o;rw[e]at this;simp only[List.length_nil]at this;omega) HO.o).mono ?_;rintro e w2 ⟨rfl,ho,hg⟩;have xB:Hid (w2.ownsRow w.heap.size 3 1 v (fU P).length ((fU P).map (Value.int .i64))):=(by rw[fm];exact ho:w2.ownsRow w.heap.size 3 1 v (fU P).length ((fU P).map (Value.int .i64)))
    have gE:Hid (Below w.heap.size w w2):=Below.grown db.o hg db.o.size (fun k hk=>(aE HO.o k hk).1);clear ho hg)
  |(go_at_call 53
    refine(qh w2 w.heap.size v (fU P) (by rw[fm];have:=ve.o;omega) (fun e=>by have h1:=fm P;rw[e]at h1;have h2:=ve.o;simp only[List.length_nil]at h1;omega) xB.o).mono ?_;rintro e w3 ⟨⟨v',rfl,ho⟩,hg⟩;have eM:Hid (Below w.heap.size w w3):=Below.grown gE.o hg gE.o.size (fun k hk=>(aE xB.o k hk).1);obtain⟨a',c',rfl⟩:=dM ho;rw[HD.o];clear ho hg))
 go_ret;exact⟨rfl,eM.o⟩
end Go.Proofs.Cz
